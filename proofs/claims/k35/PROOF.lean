import PyProof.Rows.All
import Wide.All
import OpenK.AllK
import Wide.FinOn
import HandS.ForMost
import HandS.Exc
import HandS.Defaults
import HandS.Lambda
import HandS.EndBits
import HandS.EndTab
import HandS.HeadHook4
import HandS.HeadWalk
import KE.KExcSuper
import KE.KExcInit
import HandS.ExcInit
import KE.KSuper
import HandS.ExcField
import HandS.TryMany
import KE.GoesEnum
import HandS.Walk
import HandS.DictTup
import PyProof.DictUpdate
import HandS.SortOrd
import PyProof.InstNe
import HandS.OwnEq
import HandS.MakeKwOnly
import KE.KDictDisplayH
import HandS.ExcOwn
import HandS.TryOnly
import HandS.WordsExc
import HandS.IsInst
import HandS.More
import HandS.SortInts
import HandS.TupAny
import HandS.Codes
import HandS.Wide
import HandS.Style
import HandS.Conv
import HandS.Deep
import HandS.NestedK
import HandS.Head0
import HandS.Head1
import HandS.Head2
import PySem.Challenge.RW_houseslessties_k35_whole_meetings_that_b
set_option Elab.async false
set_option linter.all false
set_option maxRecDepth 100000
namespace K35
open PySem PySem.Spec PyProof.Rows L2
def top (i : Nat) : Stmt := PySem.Challenge.pw_houseslessties_k35_whole_meetings_that_b.main.body.getD i (.Pass ⟨0, 0, 0, 0⟩)
abbrev Pg : Program := PySem.Challenge.pw_houseslessties_k35_whole_meetings_that_b
/-! ### the text: each def by its place -/
abbrev s_BadMachine_init : Stmt := inClass (top 2) 0
abbrev s_Refused_init : Stmt := inClass (top 3) 0
abbrev s_Untold_init : Stmt := inClass (top 4) 0
abbrev s_Uncommuting_init : Stmt := inClass (top 5) 0
abbrev s_NoState_init : Stmt := inClass (top 6) 0
abbrev s_NoDeed_init : Stmt := inClass (top 7) 0
abbrev s_is_integer : Stmt := top 11
abbrev s_is_number : Stmt := top 12
abbrev s_is_below : Stmt := top 13
abbrev s_is_sequence : Stmt := top 14
abbrev s_is_table : Stmt := top 16
abbrev s_check_tables : Stmt := top 17
abbrev s_Machine_init : Stmt := inClass (top 18) 0
abbrev s_Machine_eq : Stmt := inClass (top 18) 1
abbrev s_need_state : Stmt := top 19
abbrev s_need_deed : Stmt := top 20
abbrev s_orbit : Stmt := top 21
abbrev s_pair_rows : Stmt := top 23
abbrev s_ends_of : Stmt := top 24
abbrev s_join : Stmt := top 25
abbrev s_commuting_paper : Stmt := top 27
abbrev s_need_commuting : Stmt := top 28
abbrev s_Twin_init : Stmt := inClass (top 30) 0
abbrev s_Twin_need_side : Stmt := inClass (top 30) 1
abbrev s_Twin_do : Stmt := inClass (top 30) 2
abbrev s_Twin_ahead : Stmt := inClass (top 30) 3
abbrev s_Twin_base : Stmt := inClass (top 30) 4
abbrev s_Twin_meet : Stmt := inClass (top 30) 5
abbrev s_put_in : Stmt := top 31
abbrev s_law_box : Stmt := top 33
abbrev s_law_take : Stmt := top 34
abbrev s_law_pick : Stmt := top 35
abbrev s_law_machine : Stmt := top 36
abbrev s_law_wider : Stmt := top 37
abbrev s_law_led : Stmt := top 38
abbrev s_law_rows : Stmt := top 39
abbrev s_law_heard : Stmt := top 40
abbrev s_law_new : Stmt := top 41
abbrev s_law_ahead : Stmt := top 42
abbrev s_law_do : Stmt := top 43
abbrev s_law_meet : Stmt := top 44
abbrev s_law_right : Stmt := top 45
abbrev s_law_same : Stmt := top 46
abbrev s_law_strangers_right : Stmt := top 47
abbrev s_law_made_right : Stmt := top 48
abbrev s_law : Stmt := top 49
end K35
set_option maxHeartbeats 4000000
/-! A def's promise kept where no repr is under way (guards known): needed for repr of lists and tuples. -/
namespace K35
open PySem PySem.Spec PyProof.Rows L2
structure FnG (P : Program) (w : World) (K : PySem.W.Frag) (mg : Str → Option Value) (base : Heap) (CX : CXT) (k : Nat) (f : Addr) (fd : FuncData) (ps : List Str) (sp : Sp) : Prop where
  len : ∀ vs H Q E, sp vs H Q E → vs.length = ps.length
  run : ∀ (A : Around) (outer : List Env) (s : Shared) (H : Hp) (args : Args) (us : List Value) (vs : List V) (Q : VK) (E : XK), A.guards = some [] → Room k A → Env0 P w K mg base A outer s H →
    BindsTo s fd args (ps.zip us) → Vals vs us → sp vs H Q E → codeAny (model P w) A (.call (.ref f) args) (CR CX outer P w H s Q E) s
theorem deeper_guards {A : Around} {env : Env} (h : A.guards = some []) : (A.deeper env).guards = some [] := h
section
variable {P : Program} {w : World} {K : PySem.W.Frag} {mg : Str → Option Value} {base : Heap}
theorem fnG_of {CX : CXT} {x qual : Str} {params : Arguments} {body : List Stmt} {scope : Scope} {dvs : List V} {kws : List (Str × V)} {f : Addr} {fd : FuncData} {N ps : List Str} {k : Nat} {sp : Sp}
    (F : FunD K x qual params body scope dvs kws f fd) (S : FnScope N ps scope) (len : ∀ vs H Q E, sp vs H Q E → vs.length = ps.length)
    (hbody : ∀ (cdv : Value) (A : Around) (outer : List Env) (s : Shared) (H : Hp) (vs : List V) (Q : VK) (E : XK), A.guards = some [] → Room k (A.deeper (envOfC qual scope s.heap.objs.size f cdv)) → PySem.W.codeIn K cdv qual = true →
      (∃ oc od osl, K.lookup f = some ⟨oc, od, .func fd, osl⟩ ∧ fd.code = cdv) → sp vs H Q E →
      ∃ t, PSs (cxOf CX P w K mg base N qual scope f cdv A outer s H E) body t ∧ t { nx := fun _ H' => Q .non H', rt := Q } (start N vs) H) : FnG P w K mg base CX (k + 1) f fd ps sp := by
  obtain ⟨oc, od, dV, kV, doc, pm, an, cdv, ct, osl, rfl, lk, hcd, _, _⟩ := F.ex
  refine ⟨len, fun A outer s H args us vs Q E hg hr e0 hb r hsp => ?_⟩
  exact LamX.run_ofS lk hcd S hr e0 hb r (len _ _ _ _ hsp) fun hr' => hbody cdv A outer s H vs Q E hg hr' hcd ⟨oc, od, osl, lk, rfl⟩ hsp
end
section
variable {X : Cx} {CX : CXT} {k : Nat} {f : Addr} {fd : FuncData} {ps : List Str} {sp : Sp} {E : XK} {x : Str} {p pos : Pos} {e : Expr} {es : List Expr} {t : TA}
/-- f(e, ..), f such a def -/
theorem pe_callG (G : X.A.guards = some []) (F : FnG X.prog X.w X.K X.mg X.base CX k f fd ps sp) (hr : Room k X.A) (hg : Gl X x) (hm : X.mg x = some (.ref f)) (hk : PySem.W.keepIn X.K (.ref f) = true) (hb : Binds X.K fd ps []) (hx : Passes CX X E) (ha : PA X (e :: es) t)
    (hdb : (x == ("__debug__" : Str)) = false := by decide) (he : starEach (e :: es) X.env = (false, eval e X.env) :: starEach es X.env := by rfl) (hpl : (backTo pos (starEach es X.env)).any (·.1) = false := by rfl) :
    PE X (.Call (.Name x p) (e :: es) [] pos) (tCall sp [] E t) := by
  refine ⟨fun pins s σ H Q I h => ?_⟩
  refine wpAny_Call_Name_kw (ld_glob I hg hm ?_ hdb)
  refine PySem.W.callWith_K (h₀ := X.base) I.ok.mod.kin hk (thn (ha.run pos pins s σ H _ I h) fun us s1 hu => ?_) he hpl
  obtain ⟨vs, H1, I1, r, q⟩ := hu
  refine ⟨I1.kIn, ?_⟩
  rw [List.append_nil] at q
  have hl : us.length = ps.length := by
    rw [← r.length]
    exact F.len _ _ _ _ q
  have b := hb s1 us I1.kIn (by rw [List.append_nil]; exact hl)
  rw [List.append_nil] at b
  refine wpAny_call (codeAny_mono (F.run X.A X.stack s1 H1 ⟨us, []⟩ us vs Q E G hr I1.env0 b r q) fun res s' hq => ?_)
  cases res with
  | error er => exact hx pins σ H1 s1 er s' I1 hq
  | ok fl =>
    cases fl with
    | ret u => exact I1.after hq
    | next => exact False.elim hq
    | brk => exact False.elim hq
    | cont => exact False.elim hq
end
/-! ### repr -/
section
variable {X : Cx}
/-- repr(x) of a list or tuple of data -/
theorem call_reprU (G : X.A.guards = some []) (hu : X.A.units + 64 < cLine) : CallR X (.builtin "repr") (fun xs H Q => ∃ (v : V) (d : PyData), xs = [v] ∧ Dp X.K H v d ∧ d.showable = true ∧ d.hasDict = false ∧ d.depth ≤ 60 ∧ d.shown.length ≤ sizeLine ∧ Q (.str d.shown) H) := by
  intro pins s σ H xs us Q I r h
  obtain ⟨v, d, rfl, hd, hs, hn, hdp, hz, q⟩ := h
  cases r with
  | cons r1 rn =>
    cases rn
    rename_i u
    cases hd with
    | non =>
      obtain rfl : u = Value.none := r1
      refine P.repr_of_none ⟨.str _, H, I.tok _, ⟨_, rfl⟩, ?_⟩
      simpa only [PyData.shown] using q
    | bl b =>
      obtain rfl : u = Value.bool b := r1
      refine P.repr_of_bool ⟨.str _, H, I.tok _, ⟨_, rfl⟩, ?_⟩
      simpa only [PyData.shown] using q
    | int i =>
      obtain ⟨t, rfl⟩ := r1
      refine P.repr_of_int (by simpa [PyData.showable] using hs) ⟨.str _, H, I.tok _, ⟨_, rfl⟩, ?_⟩
      simpa only [PyData.shown] using q
    | str x =>
      obtain ⟨t, rfl⟩ := r1
      refine P.repr_of_str ⟨.str _, H, I.tok _, ⟨_, rfl⟩, ?_⟩ (by simpa only [PyData.shown] using hz)
      simpa only [PyData.shown] using q
    | lst h1 h2 =>
      rename_i a xs ds
      obtain rfl : u = Value.ref a := r1
      obtain ⟨as, rd⟩ := Dp.reads I (.list ds) (.ref a) (.ref a) (.lst h1 h2) rfl
      refine repr_of_reads' rd hs (fun e => by rw [hn] at e; cases e) G (by omega) (fun _ _ e => e) (fun h' u tk kk => ?_) hz
      exact ⟨.str _, H, I.kept kk, ⟨_, rfl⟩, q⟩
    | tup h1 h2 =>
      rename_i a xs ds
      obtain rfl : u = Value.ref a := r1
      obtain ⟨as, rd⟩ := Dp.reads I (.tuple ds) (.ref a) (.ref a) (.tup h1 h2) rfl
      refine repr_of_reads' rd hs (fun e => by rw [hn] at e; cases e) G (by omega) (fun _ _ e => e) (fun h' u tk kk => ?_) hz
      exact ⟨.str _, H, I.kept kk, ⟨_, rfl⟩, q⟩
theorem call_reprD {k : Nat} (G : X.A.guards = some []) (hr : Room k X.A) : CallR X (.builtin "repr") (fun xs H Q => ∃ (v : V) (d : PyData), xs = [v] ∧ Dp X.K H v d ∧ d.showable = true ∧ d.hasDict = false ∧ d.depth ≤ 60 ∧ d.shown.length ≤ sizeLine ∧ Q (.str d.shown) H) := call_reprU G hr.units
end
end K35
set_option maxHeartbeats 4000000
/-! The end of the law's row, its def's promise kept where guards are known; tables of code objects tracked. -/
namespace K35
open PySem PySem.Spec PyProof.Rows L2 LamX
/-- the script and the empty tables, as an abstract heap -/
def endH (a : Addr) (o : Option HO) (ts : List Addr) : Hp := fun b => if b = a then o else if b ∈ ts then some (.tbl #[]) else none
theorem endH_a {a : Addr} {o : Option HO} {ts : List Addr} : endH a o ts a = o := if_pos rfl
theorem endH_t {a b : Addr} {o : Option HO} {ts : List Addr} (h : b ≠ a) (m : b ∈ ts) : endH a o ts b = some (.tbl #[]) := (if_neg h).trans (if_pos m)
theorem endH_n {a b : Addr} {o : Option HO} {ts : List Addr} (h : b ≠ a) (m : b ∉ ts) : endH a o ts b = none := (if_neg h).trans (if_neg m)
theorem end_call {P : Program} {w : World} {K : PySem.W.Frag} {mg mb : Str → Option Value} {CX : CXT} {k : Nat} {fa a : Addr} {cs : List (Addr × Addr)} {fd : FuncData} {x : Str} {sp : Sp} {s1 : Shared} {vs : List Value} {ns : List Int}
    (KX : K.In s1.heap) (hns : s1.heap.Ns mainGlobals mg) (hb : s1.heap.Ns builtinsNs mb) (hbb : ∀ x : Str, x ≠ "__name__" → mb x = bootBuiltins x) (hlim : s1.heap.NoLimit) (hg : s1.gens = #[])
    (hT : ∀ p ∈ cs, s1.heap.get? p.2 = some { cls := .none, data := .fields #[] }) (nT : ∀ p ∈ cs, K.lookup p.2 = none) (C : ∀ p ∈ cs, PySem.W.CodeHd s1.heap p.1 p.2)
    (hbm : ∃ (bm : Addr) (ob : Obj), mg "__builtins__" = some (.ref bm) ∧ bm ≠ builtinsNs ∧ s1.heap.get? bm = some ob ∧ ob.cls = .type "module" ∧ ob.dict = some builtinsNs ∧ ob.data = .plain)
    (ha : s1.heap.get? a = some { cls := .type "list", data := .seq vs.toArray }) (hi : IntsAre vs ns) (hl : ns.length ≤ sizeLine) (hr : Room k callerA)
    (F : ∀ base : Heap, K.In base → base.Ns mainGlobals mg → (∀ p ∈ cs, TabB base mg p.1 p.2) → FnG P w K mg base CX k fa fd [x] sp) (hbind : ∀ (s : Shared) (u : Value), BindsTo s fd ⟨[u], []⟩ [(x, u)])
    (hsp : ∀ H : Hp, (∀ p ∈ cs, H p.2 = some (.tbl #[])) → SqL K H a (ns.map V.int) → sp [.ref a] H (fun v _ => v = .bl true) fun _ _ _ => False)
    (hCX : ∀ H e s', CX [] H s1 (fun _ _ _ => False) e s' → False) :
    codeAny (model P w) callerA (.call (.ref fa) ⟨[.ref a], []⟩) (fun r s' => r = .ok (.ret (.bool true)) ∧ OldK s1.heap s'.heap ∧ s'.os = s1.os ∧ AllBare s'.gens) s1 := by
  have rv := vals_ints hi
  have lenV := hi.length
  obtain ⟨ts, ets⟩ : ∃ ts : List Addr, ts = cs.map (·.2) := ⟨_, rfl⟩
  have memT : ∀ p ∈ cs, p.2 ∈ ts := fun p hp => by
    rw [ets]
    exact List.mem_map.mpr ⟨p, hp, rfl⟩
  have isT : ∀ b ∈ ts, ∃ p ∈ cs, p.2 = b := fun b hb => by
    rw [ets] at hb
    exact List.mem_map.mp hb
  have tabAt : ∀ b ∈ ts, s1.heap.get? b = some { cls := .none, data := .fields #[] } := fun b hb => by
    obtain ⟨p, hp, e⟩ := isT b hb
    rw [← e]
    exact hT p hp
  have aT : a ∉ ts := fun z => by
    have q := tabAt a z
    rw [ha] at q
    have z2 : Data.seq vs.toArray _ = Data.fields #[] := congrArg Obj.data (Option.some.inj q)
    cases z2
  -- the script: the module's own, or tracked
  have pick : ∃ o : Option HO, SqL K (endH a o ts) a (ns.map V.int) ∧ (o = none ∨ (K.lookup a = none ∧ o = some (.frz { cls := .type "list", data := .seq vs.toArray } (.lst (ns.map V.int))))) := by
    cases hk : K.lookup a with
    | some o =>
      have e := KX a o hk
      rw [ha] at e
      cases e
      exact ⟨none, .inr ⟨_, vs.toArray, _, hk, rfl, rfl, rfl, by rw [List.size_toArray, lenV]; exact hl, by simpa using rv⟩, .inl rfl⟩
    | none => exact ⟨_, .inl (.inr ⟨{ cls := .type "list", data := .seq vs.toArray }, endH_a⟩), .inr ⟨rfl, rfl⟩⟩
  obtain ⟨o, hS, ho⟩ := pick
  obtain ⟨H, eH⟩ : ∃ H : Hp, H = endH a o ts := ⟨_, rfl⟩
  rw [← eH] at hS
  have Hout : ∀ b, b ≠ a → b ∉ ts → H b = none := fun b h1 h2 => by
    rw [eH]
    exact endH_n h1 h2
  have Hat : H a = o := by
    rw [eH]
    exact endH_a
  have Htab : ∀ b ∈ ts, H b = some (.tbl #[]) := fun b hb => by
    rw [eH]
    exact endH_t (fun z => aT (by rw [← z]; exact hb)) hb
  have hok : HOk P w H s1.heap := fun b u e => by
    by_cases h1 : b = a
    · rw [h1] at e ⊢
      rw [Hat] at e
      rcases ho with z | ⟨_, z⟩
      · rw [z] at e
        cases e
      · rw [z] at e
        cases e
        exact ⟨ha, by rw [List.length_map]; exact hl, vs, _, rv, ha⟩
    · by_cases h2 : b ∈ ts
      · rw [Htab b h2] at e
        cases e
        exact tabAt b h2
      · rw [Hout b h1 h2] at e
        cases e
  -- what is neither a sequence nor an empty record is not tracked
  have free : ∀ {b : Addr} {ob : Obj}, s1.heap.get? b = some ob → (∀ is n, ob.data ≠ .seq is n) → ob.data ≠ .fields #[] → H b = none := fun {b ob} e h1 h2 => by
    by_cases q1 : b = a
    · rw [q1, ha] at e
      cases e
      exact (h1 _ _ rfl).elim
    · by_cases q2 : b ∈ ts
      · rw [tabAt b q2] at e
        cases e
        exact (h2 rfl).elim
      · exact Hout b q1 q2
  have nsK : ∀ {b : Addr} {m : Str → Option Value}, s1.heap.Ns b m → (hidT s1.heap H).Ns b m := fun {b m} hm => by
    obtain ⟨ob, es, ep, e, d, r⟩ := hm
    exact ⟨ob, es, ep, hidT_get e (free e (fun is n z => by rw [d] at z; cases z) fun z => by rw [d] at z; cases z), d, r⟩
  have hKb : K.In (hidT s1.heap H) := fun b ob e => hidT_get (KX b ob e) (by
    by_cases q1 : b = a
    · rw [q1] at e
      rw [q1, Hat]
      rcases ho with z | ⟨z, _⟩
      · exact z
      · rw [z] at e
        cases e
    · by_cases q2 : b ∈ ts
      · obtain ⟨p, hp, ep⟩ := isT b q2
        rw [← ep, nT p hp] at e
        cases e
      · exact Hout b q1 q2)
  have hM : L2.Mod K mg (hidT s1.heap H) := ⟨hKb, nsK hns, ⟨mb, nsK hb, hbb⟩, by
    obtain ⟨mc, h1, h2⟩ := hlim
    exact ⟨mc, nsK h1, h2⟩⟩
  have TB : ∀ p ∈ cs, TabB (hidT s1.heap H) mg p.1 p.2 := fun p hp => by
    have hTp := hT p hp
    refine ⟨?_, ?_, fun z => ?_⟩
    · obtain ⟨ob, us, file, tf, flags, tg, inF, text, tt, e1, r1, r2, r3, r4, r5, r6, r7, r8, hne⟩ := C p hp
      refine ⟨ob, us, file, tf, flags, tg, inF, text, tt, hidT_get e1 (free e1 (fun is n z => ?_) fun z => ?_), r1, r2, r3, r4, r5, r6, r7, r8, hne⟩
      · rw [r2] at z
        cases z
      · rw [r2] at z
        cases z
        simp at r3
    · obtain ⟨bm, ob, b1, b2, b3, b4, b5, b6⟩ := hbm
      have nG : bm ≠ mainGlobals := fun q => by
        obtain ⟨ox, es, ep, e, hd, _⟩ := hns
        rw [q, e] at b3
        cases b3
        rw [hd] at b6
        cases b6
      have nP : bm ≠ p.2 := fun q => by
        rw [q, hTp] at b3
        cases b3
        cases b6
      refine ⟨bm, ob, b1, b2, nG, nP, hidT_get b3 (free b3 (fun is n z => ?_) fun z => ?_), b4, b5, b6⟩
      · rw [b6] at z
        cases z
      · rw [b6] at z
        cases z
    · obtain ⟨ox, es, ep, e, hd, _⟩ := hns
      rw [z, hTp] at e
      cases e
      cases hd
  have e0 : Env0 P w K mg (hidT s1.heap H) callerA [] s1 H := ⟨rfl, hM, fun b ob e => of_hidT e, Nat.le_of_eq (hidT_size _ _), trivial, fun b hb => absurd (show b ∈ ([] : List Addr) from hb) (by simp), hok, .of_eq hg⟩
  refine codeAny_mono ((F _ hKb (nsK hns) TB).run callerA [] s1 H ⟨[.ref a], []⟩ [.ref a] [.ref a] _ _ rfl hr e0 (hbind s1 (.ref a)) (.cons rfl .nil) (hsp H (fun p hp => Htab _ (memT p hp)) hS)) fun r s' h => ?_
  cases r with
  | error e => exact (hCX H e s' h).elim
  | ok fl =>
    cases fl with
    | next => exact False.elim h
    | brk => exact False.elim h
    | cont => exact False.elim h
    | ret u =>
      obtain ⟨v, H', os, bare, un, hok', r', q⟩ := h
      have q' : v = .bl true := q
      subst q'
      obtain rfl : u = Value.bool true := r'
      have key : ∀ b ob, b ∉ ts → s1.heap.get? b = some ob → s'.heap.get? b = some ob := fun b ob nb e => by
        by_cases q1 : b = a
        · rcases ho with z | ⟨_, z⟩
          · exact un.keep b ob e (by rw [q1, Hat, z]) (fun z => absurd (show b ∈ ([] : List Addr) from z) (by simp)) (by simp)
          · have z2 := un.frzs b _ _ (by rw [q1, Hat, z])
            obtain ⟨e2, _⟩ := hok' b _ z2
            rw [q1, ha] at e
            cases e
            exact e2
        · exact un.keep b ob e (Hout b q1 nb) (fun z => absurd (show b ∈ ([] : List Addr) from z) (by simp)) (by simp)
      have grown : ∀ b ∈ ts, ∃ more : Array Value, s'.heap.get? b = some { cls := .none, data := .fields more } := fun b hb => by
        obtain ⟨more, z⟩ := un.tbls b #[] (Htab b hb)
        exact ⟨_, hok' b _ z⟩
      refine ⟨rfl, ⟨fun b ob e => ?_, fun b ob e => ?_⟩, os, bare⟩
      · by_cases hb : b ∈ ts
        · obtain ⟨p, hp, ep⟩ := isT b hb
          obtain ⟨more, hm⟩ := grown b hb
          rw [tabAt b hb] at e
          cases e
          rw [← ep] at hm ⊢
          exact .inr (.inl ⟨((C p hp).tab (hT p hp)).isCodeTable, rfl, #[], more, rfl, by rw [Array.empty_append]; exact hm⟩)
        · exact .inl (key b ob hb e)
      · by_cases hb : b ∈ ts
        · exact ⟨_, (grown b hb).choose_spec⟩
        · exact ⟨ob, key b ob hb e⟩
theorem end_walk {l : PySem.W.OpenLaw} {n k : Nat} {q : Program} {loose : List Str} {XP : (Str → Option Value) → Heap → Prop} {YP : World → Heap → Prop} {d : DefRec} {CX : World → CXT} {x : Str}
    (hn : l.most = some n) (hn2 : n ≤ sizeLine) (hdf : d.params.defaults = []) (hr : Room k callerA)
    (F : ∀ (w : World) (mg : Str → Option Value) (fa : Addr) (h : Heap), YP w h → h.Ns mainGlobals mg → mg d.name = some (.ref fa) → ∃ (K : PySem.W.Frag) (fd : FuncData) (cs : List (Addr × Addr)) (sp : Sp), K.In h ∧
      (∀ p ∈ cs, h.get? p.2 = some { cls := .none, data := .fields #[] }) ∧ (∀ p ∈ cs, K.lookup p.2 = none) ∧ (∀ p ∈ cs, PySem.W.CodeHd h p.1 p.2) ∧ (∀ (s : Shared) (u : Value), BindsTo s fd ⟨[u], []⟩ [(x, u)]) ∧
      (∀ (H : Hp) (a : Addr) (ns : List Int), ns.length ≤ n → (∀ p ∈ cs, H p.2 = some (.tbl #[])) → SqL K H a (ns.map V.int) → sp [.ref a] H (fun v _ => v = .bl true) fun _ _ _ => False) ∧
      ∀ base : Heap, K.In base → base.Ns mainGlobals mg → (∀ p ∈ cs, TabB base mg p.1 p.2) → FnG l.prog w K mg base (CX w) k fa fd [x] sp)
    (hCX : ∀ (w : World) (H : Hp) (s : Shared) (e : Value) (s' : Shared), CX w [] H s (fun _ _ _ => False) e s' → False) :
    PySem.W.WalkO q loose XP YP l.row.toRowW d [] (fun f vs => PySem.call f vs) := by
  refine Att.attach_callB hn hdf fun w s0 s1 mg mb fa o pm cd doc a vs ns G Y ho hd hcd hmg hobj hints hlen hbits hg => ?_
  obtain ⟨K, fd, cs, sp, KX, hT, nT, C, hb, hsp, hF⟩ := F w mg fa _ Y G.T.g hmg
  exact end_call KX G.T.g G.T.b G.T.builtins G.T.nolimit hg hT nT C G.T.bmain hobj hints (Nat.le_trans hlen hn2) hr hF hb (fun H hH hS => hsp H a ns hlen hH hS) fun H e s' => hCX w H s1 e s'
end K35
set_option maxHeartbeats 4000000
/-! Own exception classes whose __init__ says super().__init__('..') and stores its arguments; over ValueError (also two deep) and over KeyError. -/
namespace K35
open PySem PySem.W PySem.Calls PyProof.Rows
abbrev keTail : List Value := [.type "KeyError", .type "LookupError", .type "Exception", .type "BaseException", .type "object"]
/-- what is asked of a built-in __init__ of an exception -/
structure InitF (B initId : String) : Prop where
  entry : entryFor table initId = some Builtin.«BaseException.__init__»
  plain : plainId initId = true
  kind : builtinKind initId = some .slot
  row : Manifest.signature? initId = some ⟨.positional, "*", B, .self, [⟨"args", .varPos, false⟩]⟩
  star : (B != "*") = true
theorem keInit : InitF "KeyError" "KeyError.__init__" where
  entry := entryFor_alias (id' := "BaseException.__init__") (by rw [fastTable_eq_tree]; kernel_rfl) (by first | rfl | decide +kernel) (by decide +kernel) (by rw [fastTable_eq_tree]; kernel_rfl)
  plain := by decide +kernel
  kind := by kernel_rfl
  row := by kernel_rfl
  star := by decide +kernel
theorem veInit : InitF "ValueError" "ValueError.__init__" := ⟨F.excBase_ValueError.initEntry, F.excBase_ValueError.init.plain, F.excBase_ValueError.initKind, F.excBase_ValueError.initRow, F.excBase_ValueError.noStar⟩
theorem keKxs : KxsFacts "KeyError" "KeyError.__init__" := ⟨by show builtinType _ = _; rw [builtinType_eq_fast]; kernel_rfl, by first | kernel_rfl | rfl⟩
theorem kePass (self : Value) : refuseLoop self "__setattr__" keTail = pure () := by kernel_rfl
theorem vePass (self : Value) : refuseLoop self "__setattr__" HandSPX.veTail = pure () := PySem.F.store_ValueError.passes self
/-! ### what the written part says of such a class: B, newId make it; BI, initId is what super().__init__ finds; bmT the built-in tail of its mro -/
structure XC (K : Frag) (C : Addr) (B newId BI initId : String) (bmT : List Value) : Prop where
  FB : ∃ (i : String) (bm : List Value), ExcBaseFacts B newId i bm
  KF : KxsFacts BI initId
  IF : InitF BI initId
  pass : ∀ self, refuseLoop self "__setattr__" bmT = pure ()
  obB : bmT.contains (.type "object") = true
  isB : bmT.contains (.type B) = true
  noA : bmT.contains (.type "AttributeError") = false
  noN : bmT.contains (.type "NameError") = false
  init : excInitIn K C bmT newId = true
  hasD : hasDictIn K C = true
  sa : findIn K (.ref C) "__setattr__" = some (some (.builtin "object.__setattr__"))
  exC : subIn K (.ref C) (.type "BaseException") = some true
  tyC : typeIn K (.ref C) = some (.type "type")
  kC : keepIn K (.ref C) = true
  sup : ks_superIn K C C "__init__" = some (some (.builtin initId))
  subB : subIn K (.ref C) (.type BI) = some true
  self : mroIn K C (.ref C) = some true
  opq : nsIn K cStatics "thirdparty.any" = some none
section
variable {K : Frag} {C : Addr} {B newId BI initId : String} {bmT : List Value}
theorem XC.cd (T : XC K C B newId BI initId bmT) : ∃ cd bm, clsIn K C = some cd ∧ cd.mro = .ref C :: bm ∧ excTail bmT bm = true ∧ cd.hasDict = true := by
  have q := T.init
  have hd := T.hasD
  unfold excInitIn at q
  unfold hasDictIn at hd
  split at q
  · rename_i dd cd sl ho
    have hc : clsIn K C = some cd := by
      unfold clsIn
      rw [ho]
    rw [hc] at hd
    split at q
    · rename_i C' bm k0 k1 k2 k3 n k5 hm hs
      simp only [Bool.and_eq_true, beq_iff_eq, Bool.not_eq_true'] at q
      obtain ⟨⟨⟨e1, e2⟩, e3⟩, e4⟩ := q
      subst e1
      exact ⟨cd, bm, hc, hm, e4, by simpa using hd⟩
    · cases q
  · cases q
end
/-! ### the bound built-in __init__, called -/
section
variable {prog : Program} {w : World} {M : Model} {A : Around} {E : Value → Shared → Prop} {h : Heap} {g : Array GenState} {d : Drawn} {t : Nat} {os : OsState}
variable {K : Frag} {C : Addr} {B newId BI initId : String} {bmT : List Value}
theorem chk_bound (F : InitF BI initId) {nm q : Str} {N e : Addr} {oe : Obj} {bs bm : List Value} {hdct : Bool} {sn : List Str} {sub : List Value} {ab : Bool} {col : Option Bool} {dd : Option Addr} {k0 k1 k2 k3 k5 : Option Value} {rest : List Value} {Q : Unit → Shared → Prop}
    (hC : h.get? C = some (excClassObj nm q C N bs bm hdct sn sub ab col dd k0 k1 k2 k3 k5 newId)) (he : h.get? e = some oe) (hcls : oe.cls = .ref C) (hq : Q () ⟨h, g, d, t, os⟩) : wpAny M A (checkBoundCall initId ⟨.ref e :: rest, []⟩) Q E ⟨h, g, d, t, os⟩ := by
  have hshort := F.star
  simp only [checkBoundCall, F.kind, F.row]
  repeat (first | (with_reducible refine wpAny_loadPart_at he ?_; rw [hcls]) | with_reducible refine wpAny_loadPart_at hC ?_ | wp_step)
  refine wpAny_onRaise ?_
  rw [show ∀ (a b : String) (n : Nat), Bind.check ⟨.positional, "*", BI, .self, [⟨"args", .varPos, false⟩]⟩ a b n (List.map (fun x => x.fst) ({ pos := Value.ref e :: rest } : Args).kw) = pure () from
    fun a b n => check_star_args _ _ _ _ _ _]
  exact wpAny_pure hq
theorem call_mw {u e t0 : Addr} {rest : List Value} {Q : Value → Shared → Prop} (T : XC K C B newId BI initId bmT) (X : K.In h) (he : h.get? e = some (HandSPX.excO C t0)) (hu : h.get? u = some (kxs_mw initId e)) (hrest : rest.length ≤ sizeLine)
    (hq : ∀ h' t1, (∀ b o, b ≠ e → h.get? b = some o → h'.get? b = some o) → h'.get? e = some (HandSPX.excO C t1) → Q .none ⟨h', g, d, t, os⟩) :
    wpAny (model prog w) A (call (.ref u) rest) Q E ⟨h, g, d, t, os⟩ := by
  obtain ⟨nm, N', qn, bs, bm, hdct, sn, sub, ab, col, dd, k0, k1, k2, k3, k5, hC, hT⟩ := excInit_of X T.init
  refine wpAny_call (codeAny_of_tree ?_)
  show wpAny _ A.in1 (callAny (.ref u) ⟨rest, []⟩) _ _ _
  simp only [callAny]
  refine wpAny_bind (wpAny_load hu ?_)
  simp only [kxs_mw, show (Value.type "method-wrapper" == Value.type "method" || Value.type "method-wrapper" == Value.type "builtin_function_or_method" || Value.type "method-wrapper" == Value.type "method-wrapper") = true by decide, if_true]
  refine KFB.if_so (by decide) ?_
  refine wpAny_bind (chk_bound T.IF hC he rfl ?_)
  refine wpAny_bind (wpAny_pure (wpAny_pure ?_))
  refine ⟨plainId_quiet T.IF.plain _, codeAny_builtin T.IF.entry ?_⟩
  rw [Around.under_plainId T.IF.plain _]
  exact exc_init_tree (cls := .ref C) (t0 := t0) (dv := none) (c2 := .none) (c3 := .none) (b4 := .bool false) he hrest fun h' k e1 e2 => hq h' h.objs.size k e1
/-! ### self.f = v on it -/
theorem osa_way {name : Str} {tk : Tok} {v : Value} {x : Addr} {ox : Obj} {od : Option Obj} {R : Result → Shared → Prop} (T : XC K C B newId BI initId bmT) (X : K.In h) (I : InstAt h x ox C od) (ha : findIn K (.ref C) name = some none)
    (hq : wpAny (model prog w) A.in1 (Builtin.ObjectAttr.storeInOwnDict (.ref x) (.ref C) (.str name tk) name v false)
      (fun fin s' => match fin with | .done f => R (.ok f) s' | .again c' => c'.quiet = true ∧ codeAny (model prog w) A c' R s') (fun e s' => R (.error e) s') ⟨h, g, d, t, os⟩) :
    codeAny (model prog w) A (.call (.builtin "object.__setattr__") ⟨[.ref x, .str name tk, v], []⟩) R ⟨h, g, d, t, os⟩ := by
  obtain ⟨cd, bm, hcd, hm, ht, hh⟩ := T.cd
  have SF := PySem.F.store_object
  have hob : (Value.ref C :: bm).contains (.type "object") = true := by rw [List.contains_cons, excTail_contains "object" bm ht, T.obB, Bool.or_true]
  have hmi : mroIn K C (.type "object") = some true := by
    unfold mroIn
    rw [hcd, Option.bind_some, hm, if_neg (show ¬ (List.isEmpty (Value.ref C :: bm) = true) from Bool.false_ne_true), hob]
  have sub : Looks (model prog w) h (isInstance (.ref x) (.type "object")) true := I.type.andThen (looks_mroIn X hmi)
  refine codeAny_call_builtin SF.slot.plain SF.entry (@check_slot (model prog w) _ _ ⟨h, g, d, t, os⟩ "object.__setattr__" "object" "__setattr__" (.ref x) [.str name tk, v] [] _ SF.kind SF.split sub (SF.args (.ref x) (.str name tk) v) ?_)
  have hmr : Looks (model prog w) h (mroOf (.ref C)) cd.mro := (looks_clsIn X hcd).andThen .now
  have L3 : Looks (model prog w) h (Builtin.ObjectAttr.storeTaker? none) none := .now
  have hpass : refuseLoop (.ref x) "__setattr__" cd.mro = pure () := by
    rw [hm, refuseLoop_ref]
    exact excTail_pass (.ref x) (T.pass _) bm ht
  rw [osa_eq, refuse_eq]
  refine wpAny_bind (wpAny_bind (I.type.at (wpAny_bind (hmr.at ?_))))
  rw [hpass]
  refine wpAny_pure (wpAny_bind (I.type.at (wpAny_bind ((looks_findIn X ha).at (wpAny_bind (L3.at ?_))))))
  exact hq
theorem set_new {name : Str} {v : Value} {x t1 : Addr} {Q : Unit → Shared → Prop} (T : XC K C B newId BI initId bmT) (X : K.In h) (hx : h.get? x = some (HandSPX.excO C t1)) (ha : findIn K (.ref C) name = some none)
    (hq : ∀ h' tk' dx, (∀ b o, b ≠ x → h.get? b = some o → h'.get? b = some o) → h.objs.size ≤ dx → dx ≠ x → h'.get? x = some { HandSPX.excO C t1 with dict := some dx } →
      h'.Ns1 dx (fun y => if y = name then some v else none) → Q () ⟨h', g, d, tk', os⟩) : wpAny (model prog w) A (setAttr (.ref x) name v) Q E ⟨h, g, d, t, os⟩ := by
  obtain ⟨cd, bm, hcd, hm, ht, hh⟩ := T.cd
  have I : InstAt h x (HandSPX.excO C t1) C none := ⟨hx, rfl, rfl, trivial⟩
  have hxs : x ≠ h.objs.size := Nat.ne_of_lt (Heap.lt_size hx)
  have hcls : Looks (model prog w) h (classData C) cd := looks_clsIn X hcd
  obtain ⟨nm, bs, mro, ns, qn, hd, sn, sb, ab, col, del⟩ := cd
  dsimp only at hh
  subst hh
  refine set_plain X I T.sa (osa_way T X I ha ?_)
  unfold Builtin.ObjectAttr.storeInOwnDict Builtin.ObjectAttr.ownDictForStores
  repeat (first | with_reducible refine HandSPX.store_in_new ?_ ?_ | with_reducible refine wpAny_loadPart_at hx ?_ | with_reducible refine hcls.at ?_ | wp_step)
  · exact ⟨_, #[], _, (Heap.get?_update_ne _ _ _ _ hxs.symm).trans (Heap.get?_push_at rfl rfl), rfl, fun e he => absurd he (by simp), fun _ => rfl⟩
  · intro h' tk' hn' hs
    have hx1 : (h.push { cls := .type "dict", data := .dict #[] }).get? x = some (HandSPX.excO C t1) := Heap.get?_push_of_some _ hx
    refine hq h' tk' h.objs.size (fun b o hb ho => ?_) (Nat.le_refl _) hxs.symm ?_ hn'
    · exact (hs.2 b (Nat.ne_of_lt (Heap.lt_size ho))).trans ((Heap.get?_update_ne _ _ _ _ hb).trans (Heap.get?_push_of_some _ ho))
    · exact (hs.2 x hxs).trans (Heap.get?_update_self _ hx1 rfl)
theorem set_more {name : Str} {v : Value} {x t1 dx : Addr} {m0 : Str → Option Value} {nl : List Str} {Q : Unit → Shared → Prop} (T : XC K C B newId BI initId bmT) (X : K.In h) (hx : h.get? x = some { HandSPX.excO C t1 with dict := some dx })
    (hns : h.Ns1 dx m0) (hw : Within m0 nl) (hz : nl.length ≤ 1000) (ha : findIn K (.ref C) name = some none)
    (hq : ∀ h' tk', (∀ b o, b ≠ dx → h.get? b = some o → h'.get? b = some o) → h'.Ns1 dx (fun y => if y = name then some v else m0 y) → Q () ⟨h', g, d, tk', os⟩) : wpAny (model prog w) A (setAttr (.ref x) name v) Q E ⟨h, g, d, t, os⟩ := by
  obtain ⟨cd, bm, hcd, hm, ht, hh⟩ := T.cd
  obtain ⟨oD, esD, epD, hoD, hdD, _⟩ := hns.count hw
  have I : InstAt h x { HandSPX.excO C t1 with dict := some dx } C (some oD) := ⟨hx, rfl, rfl, hoD⟩
  have hcls : Looks (model prog w) h (classData C) cd := looks_clsIn X hcd
  obtain ⟨nm, bs, mro, ns, qn, hd, sn, sb, ab, col, del⟩ := cd
  dsimp only at hh
  subst hh
  refine set_plain X I T.sa (osa_way T X I ha ?_)
  unfold Builtin.ObjectAttr.storeInOwnDict Builtin.ObjectAttr.ownDictForStores
  repeat (first | with_reducible refine PySem.OEX.store_in_old hns hw hz ?_ | with_reducible refine wpAny_loadPart_at hx ?_ | with_reducible refine hcls.at ?_ | wp_step)
  intro h' tk' hn' hs
  exact hq h' tk' (fun b o hb ho => (hs.2 b hb).trans ho) hn'
end
/-! ### the class, called: a new exception, then its own __init__ -/
section
variable {prog : Program} {w : World} {M : Model} {A : Around} {E : Value → Shared → Prop} {R : Result → Shared → Prop} {h : Heap} {g : Array GenState} {d : Drawn} {t : Nat} {os : OsState}
variable {nm q : Str} {C N : Addr} {bs bm bmB : List Value} {hdct : Bool} {sn : List Str} {sub : List Value} {ab : Bool} {col : Option Bool} {dd : Option Addr} {k0 k1 k2 k3 k5 : Option Value} {B newId initId : String}
theorem chk_new (F : ExcBaseFacts B newId initId bmB) (hB : bm.contains (.type B) = true) {rest : List Value} {Q : Unit → Shared → Prop}
    (hC : h.get? C = some (excClassObj nm q C N bs bm hdct sn sub ab col dd k0 k1 k2 k3 k5 newId)) (hq : Q () ⟨h, g, d, t, os⟩) : wpAny M A (checkBuiltinCall newId ⟨.ref C :: rest, []⟩) Q E ⟨h, g, d, t, os⟩ := by
  have hcont : (Value.ref C :: bm).contains (.type B) = true := by rw [List.contains_cons, hB, Bool.or_true]
  have hstar := F.noStar
  simp only [checkBuiltinCall, F.newKind, F.newSplit, F.newRow]
  repeat (first | refine wpAny_loadPart_at hC ?_ | (refine wpAny_isSubtype_exc hC ?_; rw [hcont]) | refine wpAny_staticBase_exc hC ?_ | refine wpAny_madeBy_exc hC ?_ | simp only [bne_self_eq_false, Bool.false_eq_true, if_false] | wp_step)
  exact hq
theorem run_new (F : ExcBaseFacts B newId initId bmB) (hB : bm.contains (.type B) = true) (hA : bm.contains (.type "AttributeError") = false) (hN : bm.contains (.type "NameError") = false) {rest : List Value}
    (hC : h.get? C = some (excClassObj nm q C N bs bm hdct sn sub ab col dd k0 k1 k2 k3 k5 newId)) (hrest : rest.length ≤ sizeLine)
    (hq : R (.ok (.ret (.ref (h.objs.size + 1)))) ⟨(h.push { cls := .type "tuple", data := .seq rest.toArray }).push (HandSPX.excO C h.objs.size), g, d, t, os⟩) :
    codeAny (model prog w) A (.builtin newId ⟨.ref C :: rest, []⟩) R ⟨h, g, d, t, os⟩ := by
  have hends := F.ends
  have hcB : (Value.ref C :: bm).contains (.type B) = true := by rw [List.contains_cons, hB, Bool.or_true]
  have hcA : (Value.ref C :: bm).contains (.type "AttributeError") = false := by rw [List.contains_cons, hA]; rfl
  have hcN : (Value.ref C :: bm).contains (.type "NameError") = false := by rw [List.contains_cons, hN]; rfl
  refine codeAny_builtinAt F.entry ?_
  unfold Builtin.«BaseException.__new__»
  refine PySem.wpAt_bind ?_
  show PySem.wpAt _ _ _ (stack >>= _) _ _ _
  refine PySem.wpAt_bind (PySem.wpAt_stack fun p below => PySem.wpAt_of_wpAny ?_)
  wp_walk
  refine PySem.wpAt_of_wpAny ?_
  rw [F.owner]
  repeat (first | with_reducible refine wpAny_madeHere_exc F.canon hC ?_ | with_reducible refine wpAny_loadPart_at hC ?_ | (with_reducible refine wpAny_isSubtype_exc hC ?_; first | rw [hcB] | rw [hcA] | rw [hcN]) | wp_step)
  show R _ _
  rw [Heap.size_push]
  exact hq
theorem run_type (F : ExcBaseFacts B newId initId bmB) (hB : bm.contains (.type B) = true) (hA : bm.contains (.type "AttributeError") = false) (hN : bm.contains (.type "NameError") = false) {rest : List Value} {fI : Addr} {Q : Fin → Shared → Prop}
    (hC : h.get? C = some (excClassObj nm q C N bs bm hdct sn sub ab col dd k0 k1 k2 k3 k5 newId))
    (hi : Looks (model prog w) h (typeLookup (.ref C) "__init__") (some (.ref fI))) (hb : ∀ self, Looks (model prog w) h (bindSpecial (.ref fI) self) (.ref fI, [self])) (hrest : rest.length ≤ sizeLine)
    (hq : codeAny (model prog w) A (.call (.ref fI) ⟨.ref (h.objs.size + 1) :: rest, []⟩)
      (fun r s' => match r with | .ok (.ret v) => v = .none ∧ Q (.done (.ret (.ref (h.objs.size + 1)))) s' | .ok _ => False | .error e => E e s')
      ⟨(h.push (kdv_tup rest)).push (HandSPX.excO C h.objs.size), g, d, t, os⟩) :
    wpAny (model prog w) A (Builtin.«type.__call__» ⟨.ref C :: rest, []⟩) Q E ⟨h, g, d, t, os⟩ := by
  repeat (first | with_reducible refine wpAny_loadPart_at hC ?_ | with_reducible refine wpAny_madeBy_exc hC ?_ | wp_step)
  refine codeAny_call_builtin_code (Code.quiet_builtin _ F.quiet) (chk_new F hB hC ?_)
  refine run_new F hB hA hN hC hrest ?_
  show wpAny _ _ _ _ _ _
  have k : ∀ b o, h.get? b = some o → ((h.push (kdv_tup rest)).push (HandSPX.excO C h.objs.size)).get? b = some o := fun b o e => Heap.get?_push_of_some _ (Heap.get?_push_of_some _ e)
  have hC1 := k _ _ hC
  have hget : ((h.push (kdv_tup rest)).push (HandSPX.excO C h.objs.size)).get? (h.objs.size + 1) = some (HandSPX.excO C h.objs.size) := by heap_get
  have hcC : (Value.ref C :: bm).contains (.ref C) = true := by simp
  have i1 := hi.keeps k
  have b1 := (hb (.ref (h.objs.size + 1))).keeps k
  unfold isInstance
  repeat (first | with_reducible refine wpAny_loadPart_at hget ?_ | (with_reducible refine wpAny_isSubtype_exc hC1 ?_; rw [hcC]) | wp_step)
  show wpAny _ _ (typeLookup (.ref C) _) _ _ _
  refine i1.at ?_
  refine wpAny_holding (wpAny_bind (b1.at ?_))
  refine wpAny_bind (wpAny_call (codeAny_mono hq fun r s' z => ?_))
  rcases r with e | (v | _ | _ | _) <;> first | exact z | exact z.elim | skip
  obtain ⟨rfl, z⟩ := z
  first
    | exact wpAny_pure (wpAny_pure z)
    | (wp_walk; exact z)
theorem run_cls (F : ExcBaseFacts B newId initId bmB) (hB : bm.contains (.type B) = true) (hA : bm.contains (.type "AttributeError") = false) (hN : bm.contains (.type "NameError") = false) {rest : List Value} {fI : Addr}
    (hC : h.get? C = some (excClassObj nm q C N bs bm hdct sn sub ab col dd k0 k1 k2 k3 k5 newId))
    (hi : Looks (model prog w) h (typeLookup (.ref C) "__init__") (some (.ref fI))) (hb : ∀ self, Looks (model prog w) h (bindSpecial (.ref fI) self) (.ref fI, [self])) (hrest : rest.length ≤ sizeLine)
    (hq : codeAny (model prog w) (A.under (.builtin "type.__call__" ⟨.ref C :: rest, []⟩)) (.call (.ref fI) ⟨.ref (h.objs.size + 1) :: rest, []⟩) (InitBack (h.objs.size + 1) R)
      ⟨(h.push (kdv_tup rest)).push (HandSPX.excO C h.objs.size), g, d, t, os⟩) :
    codeAny (model prog w) A (.call (.ref C) ⟨rest, []⟩) R ⟨h, g, d, t, os⟩ := by
  have f1 := tc_lookup
  have f2 := tc_bind (.ref C)
  have hTy : (⟨h, g, d, t, os⟩ : Shared).TypeIs (.ref C) "type" := ⟨_, hC, rfl⟩
  refine codeAny_of_tree ?_
  show wpAny _ _ (callAny (.ref C) _) _ _ _
  repeat (any_goals (first | assumption | with_reducible refine wpAny_loadPart_at hC ?_ | wp_step))
  refine ⟨rfl, ?_⟩
  refine codeAny_call_builtin_at (Code.quiet_builtin _ (by decide +kernel)) entry_typeCall (wpAny_check_type_call_sub hC (run_type F hB hA hN hC hi hb hrest ?_))
  refine codeAny_mono hq fun r s' z => ?_
  rcases r with e | (v | _ | _ | _) <;> exact z
end
end K35
set_option maxHeartbeats 4000000
/-! .. their __init__ run, and the making of such an exception. -/
namespace K35
open PySem PySem.W PySem.Calls PyProof.Rows
/-- the class's own __init__ as it stands behind the top -/
structure XI (prog : Program) (K : Frag) (C fI : Addr) (qual : Str) (st : Stmt) : Prop where
  find : findIn K (.ref C) "__init__" = some (some (.ref fI))
  typ : typeIn K (.ref fI) = some (.type "function")
  ex : ∃ (oc : Value) (od : Option Addr) (kV doc pm : Value) (an : Option Addr) (cda : Addr) (ct : Value) (osl : Array (Option Value)) (cc : Addr) (ccl cl : Value) (cdd cld : Option Addr) (vs : Array Value) (ccs csl : Array (Option Value)) (file : Str) (tf : Tok),
    K.lookup fI = some ⟨oc, od, .func (ksFn "__init__" qual (L2.defArgs st) (L2.defBody st) (L2.defScope st) .none kV doc pm an (.ref cda) ct cc), osl⟩ ∧ codeIn K (.ref cda) qual = true ∧
    K.lookup cda = some ⟨ccl, cdd, .fields vs, ccs⟩ ∧ vs[2]? = some (.str file tf) ∧ ((prog.main.file : Str) == file) = true ∧ K.lookup cc = some ⟨cl, cld, .cell (some (.ref C)), csl⟩
/-- the names of its scope -/
structure XS (scope : Scope) : Prop where
  kind : scope.kind = .function
  sup : scope.names.lookup ("super" : Str) = some .globalImplicit
  cls : scope.names.lookup ("__class__" : Str) = some .free
  self : scope.names.lookup ("self" : Str) = some .local
section
variable {prog : Program} {w : World} {A : Around} {E : Value → Shared → Prop} {s : Shared} {K : Frag} {C e : Addr} {B newId BI initId : String} {bmT : List Value} {mg mb : Str → Option Value}
/-- super().__init__('..') -/
theorem sup_stmt {body : List Stmt} {qual msg : Str} {scope : Scope} {L f cda cc t0 : Addr} {fd : FuncData} {ar : Arg} {oc ccl cl : Value} {od cdd cld : Option Addr} {osl ccs csl : Array (Option Value)} {vs : Array Value} {file : Str} {tf : Tok} {j : Nat} {p0 p1 p2 p3 p4 p5 : Pos} {m : Str → Option Value}
    {Q : Flow → Shared → Prop} {pl : Sem Bool} (T : XC K C B newId BI initId bmT) (X : K.In s.heap) (S : XS scope) (hg : s.heap.Ns mainGlobals mg) (hsup : mg "super" = none) (hb : s.heap.Ns builtinsNs mb) (hbb : mb "super" = some (.type "super"))
    (hf : K.lookup f = some ⟨oc, od, .func fd, osl⟩) (hp : (fd.params.posonlyargs ++ fd.params.args).head? = some ar) (har : ar.arg = "self") (hcode : K.lookup cda = some ⟨ccl, cdd, .fields vs, ccs⟩) (hvs : vs[2]? = some (.str file tf)) (hfile : ((prog.main.file : Str) == file) = true)
    (hcell : K.lookup cc = some ⟨cl, cld, .cell (some (.ref C)), csl⟩) (htop : (prog.main.scope.names.lookup ("super" : Str)).isSome = false) (hL : s.heap.Ns L m) (hm : m "self" = some (.ref e)) (he : s.heap.get? e = some (HandSPX.excO C t0))
    (hq : ∀ h' tk t1, (∀ b o, b ≠ e → s.heap.get? b = some o → h'.get? b = some o) → h'.get? e = some (HandSPX.excO C t1) → Q .next { s with heap := h', toks := tk })
    (hev : eval (.Call (.Attribute (.Call (.Name "super" p0) [] [] p1) "__init__" p2) [.Constant (.str msg) j p3] [] p4) (ksEnv qual scope L f (.ref cda) cc) = (do
      let ov ← attributeBase (.Call (.Name "super" p0) [] [] p1) "__init__" (ksEnv qual scope L f (.ref cda) cc) (eval (.Call (.Name "super" p0) [] [] p1) (ksEnv qual scope L f (.ref cda) cc))
      standAt p2.atName
      let (f', first) ← holding [ov] (getMethod ov "__init__" pl)
      callWith p4 f' first (backTo p4 (starEach [.Constant (.str msg) j p3] (ksEnv qual scope L f (.ref cda) cc))) [])) :
    PySem.wpAt (model prog w) A (.func body (ksEnv qual scope L f (.ref cda) cc)) (exec (.Expr (.Call (.Attribute (.Call (.Name "super" p0) [] [] p1) "__init__" p2) [.Constant (.str msg) j p3] [] p4) p5) (ksEnv qual scope L f (.ref cda) cc)) Q E s := by
  obtain ⟨hh, g, d, t, os⟩ := s
  obtain ⟨cd, bm, hcd, hmro, ht, hhd⟩ := T.cd
  obtain ⟨oD, hD1, hD2⟩ : ∃ oD, hh.get? C = some oD ∧ oD.data = .cls cd := by
    unfold clsIn at hcd
    split at hcd
    · rename_i c d cd' sl ho
      cases hcd
      exact ⟨_, X _ _ ho, rfl⟩
    · cases hcd
  have I : InstAt hh e (HandSPX.excO C t0) C none := ⟨he, rfl, rfl, trivial⟩
  refine ks_wpAt_Expr_any ?_ (by simp [interactive, S.kind])
  refine ks_wpAt_MethodCall (pl := pl) ?_ hev
  refine ks_wpAt_super_base (env := ksEnv qual scope L f (.ref cda) cc) S.sup S.cls (by decide +kernel) rfl (X _ _ hf) rfl hp rfl (X _ _ hcode) rfl hvs hfile htop ?_
  refine ks_loadName_global S.kind S.sup (loadGlobal_builtin (env := ksEnv qual scope L f (.ref cda) cc) hg hsup hb hbb ⟨rfl, ?_⟩)
  refine wpAny_loadName_free S.kind S.cls rfl ⟨_, X _ _ hcell, rfl⟩ ?_
  rw [har]
  refine wpAny_loadName_local S.kind S.self hL hm ?_
  refine ks_wpAny_isType_cls hD1 hD2 ⟨rfl, ?_⟩
  refine ks_wpAny_call_super hD1 hD2 he rfl (fun c z => by cases z) (looks_mroIn X T.self) (fun h1 e1 k1 => ?_)
  -- the bound __init__
  have sup := T.sup
  unfold ks_superIn at sup
  rw [hcd] at sup
  have X1 : K.In h1 := X.keeps k1
  have he1 := k1 _ _ he
  have hI1 : Looks (model prog w) h1 (isInstance (.ref e) (.type BI)) true := (InstAt.type (M := model prog w) (⟨he1, rfl, rfl, trivial⟩ : InstAt h1 e (HandSPX.excO C t0) C none)).andThen (looks_subIn X1 T.subB)
  have ne : e ≠ C := ks_ne X I hcd
  refine kxs_getMethod T.KF e1 (looks_opaque X1 T.opq) (l₀ := cd.mro) (fun A Q E s k q => wpAny_bind ((looks_clsIn X1 hcd) A _ E s k (wpAny_pure q))) rfl X1 sup hI1 ne (by decide +kernel) ?_
  have hu : (h1.push (kxs_mw initId e)).get? h1.objs.size = some (kxs_mw initId e) := Heap.get?_push_at rfl rfl
  have k2 : ∀ b o, h1.get? b = some o → (h1.push (kxs_mw initId e)).get? b = some o := fun b o z => Heap.get?_push_of_some _ z
  refine kxs_callWith (i := initId) (x := e) rfl (evalArgs_plain ?_)
  refine Calls.spliced_cons (Calls.Constant_str (k := j) (pos := p3) (Calls.spliced_nil ⟨hu, ?_⟩))
  refine call_mw T (X1.keeps k2) (k2 _ _ he1) hu (by rw [sizeLine_eq]; simp) fun h' t1 k3 e3 => ?_
  exact hq h' _ t1 (fun b o hb z => k3 b o hb (k2 _ _ (k1 _ _ z))) e3
/-- self.f = a, the first one -/
theorem put_new {qual f a : Str} {scope : Scope} {L fa cda cc t0 : Addr} {v : Value} {p1 p2 p3 p4 : Pos} {m : Str → Option Value} {Q : Flow → Shared → Prop} (T : XC K C B newId BI initId bmT) (X : K.In s.heap) (S : XS scope)
    (ka : scope.names.lookup a = some .local) (hda : (a == ("__debug__" : Str)) = false) (hL : s.heap.Ns L m) (hm : m "self" = some (.ref e)) (hv : m a = some v) (he : s.heap.get? e = some (HandSPX.excO C t0)) (hno : findIn K (.ref C) f = some none)
    (hq : ∀ h' tk dx, (∀ b o, b ≠ e → s.heap.get? b = some o → h'.get? b = some o) → s.heap.objs.size ≤ dx → dx ≠ e → h'.get? e = some { HandSPX.excO C t0 with dict := some dx } → h'.Ns1 dx (fun y => if y = f then some v else none) → Q .next { s with heap := h', toks := tk })
    (hs : swapsWith (.Name a p3) (some (.Attribute (.Name "self" p1) f p2)) p4.line (ksEnv qual scope L fa (.ref cda) cc) = pure false := by rfl) :
    wpAny (model prog w) A (exec (.Assign [.Attribute (.Name "self" p1) f p2] (.Name a p3) p4) (ksEnv qual scope L fa (.ref cda) cc)) Q E s := by
  refine plainObj_wpAny_Assign_Attribute ?_ hs
  refine wpAny_Name (wpAny_loadName_local S.kind ka hL hv ?_) hda
  refine wpAny_Name (wpAny_loadName_local S.kind S.self hL hm ?_) (by decide)
  exact set_new T X he hno fun h' tk dx k z ne e1 n1 => hq h' tk dx k z ne e1 n1
theorem put_more {qual f a : Str} {scope : Scope} {L fa cda cc t0 dx : Addr} {v : Value} {p1 p2 p3 p4 : Pos} {m m0 : Str → Option Value} {nl : List Str} {Q : Flow → Shared → Prop} (T : XC K C B newId BI initId bmT) (X : K.In s.heap) (S : XS scope)
    (ka : scope.names.lookup a = some .local) (hda : (a == ("__debug__" : Str)) = false) (hL : s.heap.Ns L m) (hm : m "self" = some (.ref e)) (hv : m a = some v) (he : s.heap.get? e = some { HandSPX.excO C t0 with dict := some dx }) (hno : findIn K (.ref C) f = some none)
    (hns : s.heap.Ns1 dx m0) (hw : Within m0 nl) (hz : nl.length ≤ 1000)
    (hq : ∀ h' tk, (∀ b o, b ≠ dx → s.heap.get? b = some o → h'.get? b = some o) → h'.Ns1 dx (fun y => if y = f then some v else m0 y) → Q .next { s with heap := h', toks := tk })
    (hs : swapsWith (.Name a p3) (some (.Attribute (.Name "self" p1) f p2)) p4.line (ksEnv qual scope L fa (.ref cda) cc) = pure false := by rfl) :
    wpAny (model prog w) A (exec (.Assign [.Attribute (.Name "self" p1) f p2] (.Name a p3) p4) (ksEnv qual scope L fa (.ref cda) cc)) Q E s := by
  refine plainObj_wpAny_Assign_Attribute ?_ hs
  refine wpAny_Name (wpAny_loadName_local S.kind ka hL hv ?_) hda
  refine wpAny_Name (wpAny_loadName_local S.kind S.self hL hm ?_) (by decide)
  exact set_more T X he hns hw hz hno fun h' tk k n1 => hq h' tk k n1
/-- what the run of such an __init__ leaves: the exception with its dict -/
def XDone (C e : Addr) (s : Shared) (mA : Str → Option Value) (s' : Shared) : Prop :=
  s'.gens = s.gens ∧ s'.os = s.os ∧ (∀ b o, b ≠ e → s.heap.get? b = some o → s'.heap.get? b = some o) ∧ ∃ t1 dx, s'.heap.get? e = some { HandSPX.excO C t1 with dict := some dx } ∧ s.heap.objs.size ≤ dx ∧ dx ≠ e ∧ s'.heap.Ns1 dx mA
/-- the shape of its body's first statement -/
structure X0 (prog : Program) (scope : Scope) (qual : Str) (st : Stmt) : Prop where
  ok : ∃ (msg : Str) (j : Nat) (p0 p1 p2 p3 p4 p5 : Pos), st = .Expr (.Call (.Attribute (.Call (.Name "super" p0) [] [] p1) "__init__" p2) [.Constant (.str msg) j p3] [] p4) p5 ∧
    ∀ (L f cda cc : Addr), ∃ pl : Sem Bool, eval (.Call (.Attribute (.Call (.Name "super" p0) [] [] p1) "__init__" p2) [.Constant (.str msg) j p3] [] p4) (ksEnv qual scope L f (.ref cda) cc) = (do
      let ov ← attributeBase (.Call (.Name "super" p0) [] [] p1) "__init__" (ksEnv qual scope L f (.ref cda) cc) (eval (.Call (.Name "super" p0) [] [] p1) (ksEnv qual scope L f (.ref cda) cc))
      standAt p2.atName
      let (f', first) ← holding [ov] (getMethod ov "__init__" pl)
      callWith p4 f' first (backTo p4 (starEach [.Constant (.str msg) j p3] (ksEnv qual scope L f (.ref cda) cc))) [])
/-- the run of it: what stands behind the first statement is told by hrest -/
theorem init_gen {R : Result → Shared → Prop} {fI t0 : Addr} {qual : Str} {st s0 : Stmt} {rest : List Stmt} {args : Args} {bs : List (Str × Value)} (T : XC K C B newId BI initId bmT) (J : XI prog K C fI qual st) (X : K.In s.heap) (S : XS (L2.defScope st)) (hg : s.heap.Ns mainGlobals mg) (hsup : mg "super" = none)
    (hb : s.heap.Ns builtinsNs mb) (hbb : mb "super" = some (.type "super")) (hlim : s.heap.NoLimit) (htop : (prog.main.scope.names.lookup ("super" : Str)).isSome = false) (hroom : A.depth < recursionLimit) (hKe : K.lookup e = none)
    (hbody : L2.defBody st = s0 :: rest) (h0 : X0 prog (L2.defScope st) qual s0) (hfirst : ((L2.defArgs st).posonlyargs ++ (L2.defArgs st).args).head?.map (·.arg) = some "self")
    (hbind : ∀ (kV doc pm : Value) (an : Option Addr) (cda : Addr) (ct : Value) (cc : Addr), BindsTo s (ksFn "__init__" qual (L2.defArgs st) (L2.defBody st) (L2.defScope st) .none kV doc pm an (.ref cda) ct cc) args bs)
    (hloc : ∀ x ∈ bs, (L2.defScope st).names.lookup x.1 = some .local) (hself : bs.reverse.lookup ("self" : Str) = some (Value.ref e)) (hcell : ∀ x ∈ (L2.defScope st).names, x.2 ≠ .cell) (hco : (L2.defScope st).isCoroutine = false) (hgen : (L2.defScope st).isGenerator = false)
    (he : s.heap.get? e = some (HandSPX.excO C t0))
    (hrest : ∀ (A' : Around) (E' : Value → Shared → Prop) (L cda cc : Addr) (h2 : Heap) (tk : Nat) (t2 : Addr), K.In h2 → h2.Ns L (fun x => bs.reverse.lookup x) → h2.get? e = some (HandSPX.excO C t2) → e ≠ L → s.heap.objs.size ≤ L → s.heap.objs.size ≤ h2.objs.size → (∀ b o, b ≠ e → s.heap.get? b = some o → h2.get? b = some o) →
      wpAny (model prog w) A' (execs rest (ksEnv qual (L2.defScope st) L fI (.ref cda) cc)) (fun f s' => R (.ok (.ret (match f with | .ret v => v | _ => .none))) s') E' { s with heap := h2, toks := tk }) :
    codeAny (model prog w) A (.call (.ref fI) args) R s := by
  obtain ⟨oc, od, kV, doc, pm, an, cda, ct, osl, cc, ccl, cl, cdd, cld, vs, ccs, csl, file, tf, lk, hcd, lcd, hvs, hfile, lcc⟩ := J.ex
  refine ks_codeAny_call_defAt (fd := ksFn "__init__" qual (L2.defArgs st) (L2.defBody st) (L2.defScope st) .none kV doc pm an (.ref cda) ct cc) (body := L2.defBody st) (binds := bs) hroom (X _ _ lk) rfl hlim (codeRec_of X hcd) rfl
    (hbind kV doc pm an cda ct cc) hcell hloc (fun h1 hns k1 => ?_) hco hgen S.kind
  obtain ⟨msg, j, q0, q1, q2, q3, q4, q5, rfl, hev⟩ := h0.ok
  obtain ⟨pl, hev⟩ := hev s.heap.objs.size fI cda cc
  obtain ⟨ar, har1, har2⟩ : ∃ ar : Arg, ((L2.defArgs st).posonlyargs ++ (L2.defArgs st).args).head? = some ar ∧ ar.arg = ("self" : Str) := by
    cases z : ((L2.defArgs st).posonlyargs ++ (L2.defArgs st).args).head? with
    | none =>
      rw [z] at hfirst
      cases hfirst
    | some ar =>
      rw [z] at hfirst
      exact ⟨ar, rfl, Option.some.inj hfirst⟩
  rw [hbody]
  refine ks_wpAt_execs_cons (sup_stmt (fd := ksFn "__init__" qual (L2.defArgs st) (L2.defBody st) (L2.defScope st) .none kV doc pm an (.ref cda) ct cc) T (X.keeps k1) S (hg.keeps k1) hsup (hb.keeps k1) hbb lk har1 har2 lcd hvs hfile lcc htop hns hself (k1 _ _ he) (fun h2 tk2 t2 k2 e2 => ?_) hev)
  have hLe : e ≠ s.heap.objs.size := Nat.ne_of_lt (Heap.lt_size he)
  have hns2 : h2.Ns s.heap.objs.size (fun x => bs.reverse.lookup x) := by
    obtain ⟨o, es, ep, ho, r⟩ := hns
    exact ⟨o, es, ep, k2 _ _ (Ne.symm hLe) ho, r⟩
  have X2 : K.In h2 := fun b o z => k2 b o (fun y => by
    rw [y, hKe] at z
    cases z) (k1 _ _ (X _ _ z))
  have hsz : s.heap.objs.size ≤ h2.objs.size := by
    obtain ⟨o, es, ep, ho, r⟩ := hns2
    exact Nat.le_of_lt (Heap.lt_size ho)
  exact PySem.wpAt_of_wpAny (hrest _ _ s.heap.objs.size cda cc h2 tk2 t2 X2 hns2 e2 hLe (Nat.le_refl _) hsz fun b o hb z => k2 b o hb (k1 _ _ z))
end
end K35
set_option maxHeartbeats 4000000
/-! raise C(e, ..), C such an exception class. -/
namespace K35
open PySem PySem.Spec PyProof.Rows L2
/-- C(e, ..) behind its arguments: a new dict with the fields -/
def tX (C : Addr) (fs : List Str) (ta : TA) : L2.St → Hp → XK → Prop := fun σ H Q => ta σ H fun vs H1 => vs.length = fs.length ∧ ∀ d, H1 d = none → Q (.ref C) (some d) (upd H1 d (.xd (fs.zip vs)))
/-- its own __init__ does so -/
def InitDoes (prog : Program) (w : World) (K : PySem.W.Frag) (mg : Str → Option Value) (C fI : Addr) (n : Nat) (mA : List Value → Str → Option Value) : Prop :=
  ∀ (A : Around) (s : Shared) (e t0 : Addr) (us : List Value) (mb : Str → Option Value) (R : Result → Shared → Prop), us.length = n → K.In s.heap → s.heap.Ns mainGlobals mg → s.heap.Ns builtinsNs mb → mb "super" = some (.type "super") → s.heap.NoLimit → A.depth < recursionLimit → K.lookup e = none →
    s.heap.get? e = some (HandSPX.excO C t0) → (∀ s', XDone C e s (mA us) s' → R (.ok (.ret .none)) s') → codeAny (model prog w) A (.call (.ref fI) ⟨.ref e :: us, []⟩) R s
section
variable {X : Cx} {C fI : Addr} {B newId BI initId : String} {bmT : List Value} {k : Nat} {x : Str} {p pos : Pos} {e : Expr} {es : List Expr} {ta : TA} {fs : List Str} {mA : List Value → Str → Option Value} {prog : Program} {qual : Str} {st : Stmt}
theorem pmk_x (T : XC X.K C B newId BI initId bmT) (hf : PySem.W.findIn X.K (.ref C) "__init__" = some (some (.ref fI))) (ht : PySem.W.typeIn X.K (.ref fI) = some (.type "function")) (D : InitDoes X.prog X.w X.K X.mg C fI fs.length mA)
    (hrel : ∀ vs us, Vals vs us → vs.length = fs.length → ∀ g, RelO ((fs.zip vs).lookup g) (mA us g)) (hfl : fs.length ≤ 100) (hr : Room (k + 1) X.A) (hg : Gl X x) (hm : X.mg x = some (.ref C)) (ha : PA X (e :: es) ta)
    (hdb : (x == ("__debug__" : Str)) = false := by decide) (he : starEach (e :: es) X.env = (false, eval e X.env) :: starEach es X.env := by rfl) (hpl : (backTo pos (starEach es X.env)).any (·.1) = false := by rfl) :
    PMk X (.Call (.Name x p) (e :: es) [] pos) (tX C fs ta) := by
  intro pins s σ H Q I h
  obtain ⟨iB, bmB, FB⟩ := T.FB
  refine wpAny_Call_Name_kw (ld_glob I hg hm ?_ hdb)
  refine PySem.W.callWith_K (h₀ := X.base) I.ok.mod.kin T.kC (thn (ha.run pos pins s σ H _ I h) fun us s1 hu => ?_) he hpl
  obtain ⟨vs, H1, I1, r1, hl, q1⟩ := hu
  refine ⟨I1.kIn, ?_⟩
  show wpAny _ _ (call (.ref C) us) _ _ _
  obtain ⟨nm, N', qn, bs, bm, hdct, sn, sub, ab, col, dd, k0, k1, k2, k3, k5, hC, hT⟩ := PySem.W.excInit_of I1.kIn T.init
  obtain ⟨hp, g, dr, tk, os⟩ := s1
  have hus : us.length ≤ sizeLine := by
    rw [← Paired.length r1, sizeLine_eq]
    omega
  have kk : ∀ b o, hp.get? b = some o → ((hp.push (PySem.W.kdv_tup us)).push (HandSPX.excO C hp.objs.size)).get? b = some o := fun b o e => Heap.get?_push_of_some _ (Heap.get?_push_of_some _ e)
  have hget : ((hp.push (PySem.W.kdv_tup us)).push (HandSPX.excO C hp.objs.size)).get? (hp.objs.size + 1) = some (HandSPX.excO C hp.objs.size) := by heap_get
  have KX : X.K.In hp := I1.kIn
  have hKe : X.K.lookup (hp.objs.size + 1) = none := by
    cases z : X.K.lookup (hp.objs.size + 1) with
    | none => rfl
    | some o =>
      have y := Heap.lt_size (KX _ _ z)
      exact absurd y (Nat.not_lt.mpr (Nat.le_succ _))
  obtain ⟨mb, hb1, hb2⟩ := I1.mod.blt
  refine wpAny_call (run_cls FB ((hT _).trans T.isB) ((hT _).trans T.noA) ((hT _).trans T.noN) hC (PySem.W.looks_findIn KX hf) (fun self => PySem.W.bind_fn KX self ht) hus ?_)
  refine D _ ⟨(hp.push (PySem.W.kdv_tup us)).push (HandSPX.excO C hp.objs.size), g, dr, tk, os⟩ (hp.objs.size + 1) hp.objs.size us mb _ (r1.length.symm.trans hl) (KX.keeps kk) ((I1.mod.glob.keeps I1.bk).keeps kk) ((hb1.keeps I1.bk).keeps kk)
    (hb2 "super" (by decide +kernel)) (I1.nolimit.keeps kk) (hr.make C us []).depth hKe hget fun s' done => ?_
  obtain ⟨eg, eo, kp, t1, dx, hx, hdx, hne, hns⟩ := done
  refine ⟨rfl, ?_⟩
  obtain ⟨G, g1, g2⟩ := restrict s'.heap fun b => decide (b ≠ hp.objs.size + 1)
  have gk : ∀ b, b ≠ hp.objs.size + 1 → G.get? b = s'.heap.get? b := fun b hb => g1 b (decide_eq_true hb)
  have ge : G.get? (hp.objs.size + 1) = none := g2 _ (by simp)
  have hsz : hp.objs.size ≤ dx := by
    have z : ((hp.push (PySem.W.kdv_tup us)).push (HandSPX.excO C hp.objs.size)).objs.size = hp.objs.size + 1 + 1 := by rw [Heap.size_push, Heap.size_push]
    have z2 : ((hp.push (PySem.W.kdv_tup us)).push (HandSPX.excO C hp.objs.size)).objs.size ≤ dx := hdx
    rw [z] at z2
    exact Nat.le_trans (Nat.le_add_right _ 2) z2
  have nde : ∀ {b : Addr} {o : Obj}, hp.get? b = some o → b ≠ hp.objs.size + 1 := fun {b o} z => Nat.ne_of_lt (Nat.lt_succ_of_lt (Heap.lt_size z))
  have hn1 : H1 dx = none := I1.hok.fresh hsz
  have new : ObjOk X.prog X.w (upd H1 dx (.xd (fs.zip vs))) G dx (.xd (fs.zip vs)) := ⟨mA us, hns.at fun o z => (gk dx hne).trans z, hrel vs us r1 hl⟩
  have J : Inv X pins σ (upd H1 dx (.xd (fs.zip vs))) ⟨G, g, dr, tk, os⟩ := I1.laid (t' := tk) (h' := G) (fun b u z => (gk b (nde z)).trans (kp b u (nde z) (kk b u z))) hsz new
  have He : H1 (hp.objs.size + 1) = none := I1.hok.fresh (Nat.le_succ _)
  refine ⟨hp.objs.size + 1, _, _, ⟨G, g, dr, tk, os⟩, _, .ref C, some dx, rfl, J, fun b o z => ?_, ge, hx, ⟨rfl, rfl⟩, rfl, rfl, ?_, eo, ?_, raises_own T.exC T.tyC, q1 dx hn1⟩
  · by_cases hb : b = hp.objs.size + 1
    · rw [hb, ge] at z
      cases z
    · exact (gk b hb).symm.trans z
  · rw [upd_ne (Ne.symm hne)]
    exact He
  · rw [eg]
    exact I1.bare
end
/-! ### one field, three fields -/
section
variable {prog : Program} {w : World} {K : PySem.W.Frag} {mg : Str → Option Value} {C fI : Addr} {B newId BI initId : String} {bmT : List Value} {qual : Str} {st : Stmt}
/-- what is looked at of the def, by rfl and decide -/
structure XD (prog : Program) (qual : Str) (st : Stmt) (s0 : Stmt) (rest : List Stmt) (ps : List Str) : Prop where
  body : defBody st = s0 :: rest
  h0 : X0 prog (defScope st) qual s0
  first : ((defArgs st).posonlyargs ++ (defArgs st).args).head?.map (·.arg) = some ("self" : Str)
  sc : XS (defScope st)
  loc : ∀ x ∈ ps, (defScope st).names.lookup x = some .local
  cell : ∀ x ∈ (defScope st).names, x.2 ≠ .cell
  co : (defScope st).isCoroutine = false
  gen : (defScope st).isGenerator = false
  top : (prog.main.scope.names.lookup ("super" : Str)).isSome = false
theorem does_one {f : Str} {s0 : Stmt} {p1 p2 p3 p4 : Pos} (T : XC K C B newId BI initId bmT) (J : XI prog K C fI qual st) (hsup : mg "super" = none) (Y : XD prog qual st s0 [.Assign [.Attribute (.Name "self" p1) f p2] (.Name f p3) p4] [f])
    (hbind : ∀ (kV doc pm : Value) (an : Option Addr) (cda : Addr) (ct : Value) (cc : Addr) (u v : Value), bindArgs (PySem.W.ksFn "__init__" qual (defArgs st) (defBody st) (defScope st) .none kV doc pm an (.ref cda) ct cc) ⟨[u, v], []⟩ = pure [(("self" : Str), u), (f, v)])
    (hdf : (f == ("__debug__" : Str)) = false) (hfs : f ≠ "self") (hno : PySem.W.findIn K (.ref C) f = some none)
    (hs : ∀ (L fa cda cc : Addr), swapsWith (.Name f p3) (some (.Attribute (.Name "self" p1) f p2)) p4.line (PySem.W.ksEnv qual (defScope st) L fa (.ref cda) cc) = pure false) :
    InitDoes prog w K mg C fI 1 fun us y => if y = f then us.head? else none := by
  intro A s e t0 us mb R hl X hg hb hbb hlim hroom hKe he hR
  obtain ⟨v, rfl⟩ : ∃ v, us = [v] := by
    cases us with
    | nil => cases hl
    | cons v r =>
      cases r with
      | nil => exact ⟨v, rfl⟩
      | cons _ _ => cases hl
  have hne : (("self" : Str) == f) = false := by simpa using Ne.symm hfs
  have m1 : List.lookup ("self" : Str) ([(("self" : Str), Value.ref e), (f, v)] : List (Str × Value)).reverse = some (.ref e) := by
    show List.lookup ("self" : Str) [(f, v), (("self" : Str), Value.ref e)] = _
    simp [List.lookup, hne]
  have m2 : List.lookup f ([(("self" : Str), Value.ref e), (f, v)] : List (Str × Value)).reverse = some v := by
    show List.lookup f [(f, v), (("self" : Str), Value.ref e)] = _
    simp [List.lookup]
  refine init_gen (bs := [(("self" : Str), .ref e), (f, v)]) T J X Y.sc hg hsup hb hbb hlim Y.top hroom hKe Y.body Y.h0 Y.first (fun kV doc pm an cda ct cc => .of_eq (hbind kV doc pm an cda ct cc (.ref e) v)) (fun x hx => ?_) m1 Y.cell Y.co Y.gen he
    fun A' E' L cda cc h2 tk t2 X2 hns e2 heL hsL hsz k2 => ?_
  · rcases List.mem_cons.mp hx with z | hx
    · rw [z]
      exact Y.sc.self
    · rcases List.mem_cons.mp hx with z | hx
      · rw [z]
        exact Y.loc f (by simp)
      · cases hx
  refine wpAny_execs_cons (put_new (s := { s with heap := h2, toks := tk }) T X2 Y.sc (Y.loc f (by simp)) hdf hns m1 m2 e2 hno (fun h3 tk3 dx k3 hdx hne3 e3 n3 => ?_) (hs _ _ _ _))
  refine wpAny_execs_nil (hR _ ⟨rfl, rfl, fun b o hb z => k3 b o hb (k2 b o hb z), t2, dx, e3, Nat.le_trans hsz hdx, hne3, n3⟩)
theorem does_three {f1 f2 f3 : Str} {s0 : Stmt} {a1 a2 a3 a4 b1 b2 b3 b4 c1 c2 c3 c4 : Pos} (T : XC K C B newId BI initId bmT) (J : XI prog K C fI qual st) (hsup : mg "super" = none)
    (Y : XD prog qual st s0 [.Assign [.Attribute (.Name "self" a1) f1 a2] (.Name f1 a3) a4, .Assign [.Attribute (.Name "self" b1) f2 b2] (.Name f2 b3) b4, .Assign [.Attribute (.Name "self" c1) f3 c2] (.Name f3 c3) c4] [f1, f2, f3])
    (hbind : ∀ (kV doc pm : Value) (an : Option Addr) (cda : Addr) (ct : Value) (cc : Addr) (u v1 v2 v3 : Value), bindArgs (PySem.W.ksFn "__init__" qual (defArgs st) (defBody st) (defScope st) .none kV doc pm an (.ref cda) ct cc) ⟨[u, v1, v2, v3], []⟩ = pure [(("self" : Str), u), (f1, v1), (f2, v2), (f3, v3)])
    (hd1 : (f1 == ("__debug__" : Str)) = false) (hd2 : (f2 == ("__debug__" : Str)) = false) (hd3 : (f3 == ("__debug__" : Str)) = false) (h1s : f1 ≠ "self") (h2s : f2 ≠ "self") (h3s : f3 ≠ "self") (h12 : f1 ≠ f2) (h13 : f1 ≠ f3) (h23 : f2 ≠ f3)
    (hno1 : PySem.W.findIn K (.ref C) f1 = some none) (hno2 : PySem.W.findIn K (.ref C) f2 = some none) (hno3 : PySem.W.findIn K (.ref C) f3 = some none)
    (hs1 : ∀ (L fa cda cc : Addr), swapsWith (.Name f1 a3) (some (.Attribute (.Name "self" a1) f1 a2)) a4.line (PySem.W.ksEnv qual (defScope st) L fa (.ref cda) cc) = pure false)
    (hs2 : ∀ (L fa cda cc : Addr), swapsWith (.Name f2 b3) (some (.Attribute (.Name "self" b1) f2 b2)) b4.line (PySem.W.ksEnv qual (defScope st) L fa (.ref cda) cc) = pure false)
    (hs3 : ∀ (L fa cda cc : Addr), swapsWith (.Name f3 c3) (some (.Attribute (.Name "self" c1) f3 c2)) c4.line (PySem.W.ksEnv qual (defScope st) L fa (.ref cda) cc) = pure false) :
    InitDoes prog w K mg C fI 3 fun us y => if y = f3 then us[2]? else if y = f2 then us[1]? else if y = f1 then us[0]? else none := by
  intro A s e t0 us mb R hl X hg hb hbb hlim hroom hKe he hR
  obtain ⟨v1, v2, v3, rfl⟩ : ∃ v1 v2 v3, us = [v1, v2, v3] := by
    match us, hl with
    | [v1, v2, v3], _ => exact ⟨v1, v2, v3, rfl⟩
  have n1 : (("self" : Str) == f1) = false := by simpa using Ne.symm h1s
  have n2 : (("self" : Str) == f2) = false := by simpa using Ne.symm h2s
  have n3 : (("self" : Str) == f3) = false := by simpa using Ne.symm h3s
  have n12 : (f1 == f2) = false := by simpa using h12
  have n13 : (f1 == f3) = false := by simpa using h13
  have n23 : (f2 == f3) = false := by simpa using h23
  have m0 : List.lookup ("self" : Str) ([(("self" : Str), Value.ref e), (f1, v1), (f2, v2), (f3, v3)] : List (Str × Value)).reverse = some (.ref e) := by
    show List.lookup ("self" : Str) [(f3, v3), (f2, v2), (f1, v1), (("self" : Str), Value.ref e)] = _
    simp [List.lookup, n1, n2, n3]
  have m1 : List.lookup f1 ([(("self" : Str), Value.ref e), (f1, v1), (f2, v2), (f3, v3)] : List (Str × Value)).reverse = some v1 := by
    show List.lookup f1 [(f3, v3), (f2, v2), (f1, v1), (("self" : Str), Value.ref e)] = _
    simp [List.lookup, n12, n13]
  have m2 : List.lookup f2 ([(("self" : Str), Value.ref e), (f1, v1), (f2, v2), (f3, v3)] : List (Str × Value)).reverse = some v2 := by
    show List.lookup f2 [(f3, v3), (f2, v2), (f1, v1), (("self" : Str), Value.ref e)] = _
    simp [List.lookup, n23]
  have m3 : List.lookup f3 ([(("self" : Str), Value.ref e), (f1, v1), (f2, v2), (f3, v3)] : List (Str × Value)).reverse = some v3 := by
    show List.lookup f3 [(f3, v3), (f2, v2), (f1, v1), (("self" : Str), Value.ref e)] = _
    simp [List.lookup]
  refine init_gen (bs := [(("self" : Str), .ref e), (f1, v1), (f2, v2), (f3, v3)]) T J X Y.sc hg hsup hb hbb hlim Y.top hroom hKe Y.body Y.h0 Y.first (fun kV doc pm an cda ct cc => .of_eq (hbind kV doc pm an cda ct cc (.ref e) v1 v2 v3)) (fun x hx => ?_) m0 Y.cell Y.co Y.gen he
    fun A' E' L cda cc h2 tk t2 X2 hns e2 heL hsL hsz k2 => ?_
  · simp only [List.mem_cons, List.not_mem_nil, or_false] at hx
    rcases hx with z | z | z | z
    · rw [z]
      exact Y.sc.self
    · rw [z]
      exact Y.loc f1 (by simp)
    · rw [z]
      exact Y.loc f2 (by simp)
    · rw [z]
      exact Y.loc f3 (by simp)
  have inK : ∀ {h3 : Heap}, (∀ b o, b ≠ e → h2.get? b = some o → h3.get? b = some o) → K.In h3 := fun {h3} k b o z => k b o (fun y => by
    rw [y, hKe] at z
    cases z) (X2 _ _ z)
  refine wpAny_execs_cons (put_new (s := { s with heap := h2, toks := tk }) T X2 Y.sc (Y.loc f1 (by simp)) hd1 hns m0 m1 e2 hno1 (fun h3 tk3 dx k3 hdx hne3 e3 q3 => ?_) (hs1 _ _ _ _))
  have heL' : L ≠ e := Ne.symm heL
  have hns3 : h3.Ns L (fun x => List.lookup x ([(("self" : Str), Value.ref e), (f1, v1), (f2, v2), (f3, v3)] : List (Str × Value)).reverse) := by
    obtain ⟨o, es, ep, ho, r⟩ := hns
    exact ⟨o, es, ep, k3 _ _ heL' ho, r⟩
  have hLd : L ≠ dx := by
    obtain ⟨o, es, ep, ho, r⟩ := hns
    exact Nat.ne_of_lt (Nat.lt_of_lt_of_le (Heap.lt_size ho) hdx)
  refine wpAny_execs_cons (put_more (s := { s with heap := h3, toks := tk3 }) (nl := [f1]) T (inK k3) Y.sc (Y.loc f2 (by simp)) hd2 hns3 m0 m2 e3 hno2 q3 (fun y hy => by
    by_cases z : y = f1
    · rw [z]
      simp
    · rw [if_neg z] at hy
      exact absurd rfl hy) (by simp) (fun h4 tk4 k4 q4 => ?_) (hs2 _ _ _ _))
  have e4 := k4 _ _ (Ne.symm hne3) e3
  have in4 : K.In h4 := fun b o z => by
    have hb : b ≠ dx := fun y => by
      rw [y] at z
      have y2 := Heap.lt_size (X2 _ _ z)
      exact absurd y2 (Nat.not_lt.mpr hdx)
    exact k4 b o hb (inK k3 _ _ z)
  have hns4 : h4.Ns L (fun x => List.lookup x ([(("self" : Str), Value.ref e), (f1, v1), (f2, v2), (f3, v3)] : List (Str × Value)).reverse) := by
    obtain ⟨o, es, ep, ho, r⟩ := hns3
    exact ⟨o, es, ep, k4 _ _ hLd ho, r⟩
  refine wpAny_execs_cons (put_more (s := { s with heap := h4, toks := tk4 }) (nl := [f1, f2]) T in4 Y.sc (Y.loc f3 (by simp)) hd3 hns4 m0 m3 e4 hno3 q4 (fun y hy => by
    by_cases z2 : y = f2
    · rw [z2]
      simp
    · rw [if_neg z2] at hy
      by_cases z : y = f1
      · rw [z]
        simp
      · rw [if_neg z] at hy
        exact absurd rfl hy) (by simp) (fun h5 tk5 k5 q5 => ?_) (hs3 _ _ _ _))
  refine wpAny_execs_nil (hR _ ⟨rfl, rfl, fun b o hb z => ?_, t2, dx, k5 _ _ (Ne.symm hne3) e4, Nat.le_trans hsz hdx, hne3, q5⟩)
  have hbd : b ≠ dx := Nat.ne_of_lt (Nat.lt_of_lt_of_le (Heap.lt_size z) (Nat.le_trans hsz hdx))
  exact k5 b o hbd (k4 b o hbd (k3 b o hb (k2 b o hb z)))
end
/-- the relation of the fields' values -/
theorem rel_one {f : Str} : ∀ (vs : List V) (us : List Value), Vals vs us → vs.length = [f].length → ∀ g, RelO (([f].zip vs).lookup g) (if g = f then us.head? else none)
  | [v], _, r, _, g => by
    cases r with
    | cons r1 rn =>
      cases rn
      rw [show ([f].zip [v]) = [(f, v)] from rfl, lookup_put]
      by_cases h : g = f
      · rw [if_pos h, if_pos h]
        exact r1
      · rw [if_neg h, if_neg h]
        trivial
theorem rel_three {f1 f2 f3 : Str} (h12 : f1 ≠ f2) (h13 : f1 ≠ f3) (h23 : f2 ≠ f3) : ∀ (vs : List V) (us : List Value), Vals vs us → vs.length = [f1, f2, f3].length → ∀ g, RelO (([f1, f2, f3].zip vs).lookup g) (if g = f3 then us[2]? else if g = f2 then us[1]? else if g = f1 then us[0]? else none)
  | [v1, v2, v3], _, r, _, g => by
    cases r with
    | cons r1 r =>
      cases r with
      | cons r2 r =>
        cases r with
        | cons r3 rn =>
          cases rn
          rw [show ([f1, f2, f3].zip [v1, v2, v3]) = [(f1, v1), (f2, v2), (f3, v3)] from rfl, lookup_put, lookup_put, lookup_put]
          by_cases h3 : g = f3
          · rw [if_neg (show ¬ g = f1 from fun z => h13 (z.symm.trans h3)), if_neg (show ¬ g = f2 from fun z => h23 (z.symm.trans h3)), if_pos h3, if_pos h3]
            exact r3
          · by_cases h2 : g = f2
            · rw [if_neg (show ¬ g = f1 from fun z => h12 (z.symm.trans h2)), if_pos h2, if_neg h3, if_pos h2]
              exact r2
            · by_cases h1 : g = f1
              · rw [if_pos h1, if_neg h3, if_neg h2, if_pos h1]
                exact r1
              · rw [if_neg h1, if_neg h2, if_neg h3, if_neg h3, if_neg h2, if_neg h1]
                trivial
end K35
set_option maxHeartbeats 4000000
/-! A Hook as hookX, that looks at the statics too and at the exceptions' own __init__s (which close over __class__). -/
namespace K35
open PySem PySem.Spec PyProof.Rows L2
def asS (g : Addr → Option Obj) : Nat → List Addr
  | 0 => [mainGlobals, cStatics]
  | n + 1 => He.growD g (asS g n)
/-! ### one exception class: its name, the built-in tail of its mro, what makes it, what super().__init__ finds, its fields -/
structure XD0 where
  x : Str
  bmT : List Value
  newId : String
  BI : String
  initId : String
  qual : Str
  st : Stmt
def xcB (K : PySem.W.Frag) (d : XD0) : Bool :=
  PySem.W.excInitIn K (He.ga K d.x) d.bmT d.newId && (PySem.W.hasDictIn K (He.ga K d.x) && (He.eqO (PySem.W.findIn K (.ref (He.ga K d.x)) "__setattr__") (some (some (.builtin "object.__setattr__"))) &&
  (decide (PySem.W.subIn K (.ref (He.ga K d.x)) (.type "BaseException") = some true) && (decide (PySem.W.typeIn K (.ref (He.ga K d.x)) = some (.type "type")) && (PySem.W.keepIn K (.ref (He.ga K d.x)) &&
  (He.eqO (PySem.W.ks_superIn K (He.ga K d.x) (He.ga K d.x) "__init__") (some (some (.builtin d.initId))) && (decide (PySem.W.subIn K (.ref (He.ga K d.x)) (.type d.BI) = some true) &&
  (decide (PySem.W.mroIn K (He.ga K d.x) (.ref (He.ga K d.x)) = some true) && (He.eqO (PySem.W.nsIn K cStatics "thirdparty.any") (some none) && xfB K (He.ga K d.x))))))))))
def fileB (K : PySem.W.Frag) (file : Str) (cd : Value) : Bool := match cd with
  | .ref c => (match K.lookup c with
    | some ⟨_, _, .fields vs, _⟩ => (match (vs[2]? : Option Value) with
      | some (.str f _) => file == f
      | _ => false)
    | _ => false)
  | _ => false
def cellB (K : PySem.W.Frag) (C : Addr) (cl : List (Str × Addr)) : Bool := match cl with
  | [(n, cc)] => decide (n = "__class__") && (match K.lookup cc with
    | some ⟨_, _, .cell (some (.ref D)), _⟩ => decide (D = C)
    | _ => false)
  | _ => false
def xiB (K : PySem.W.Frag) (file : Str) (d : XD0) : Bool :=
  He.eqO (PySem.W.findIn K (.ref (He.ga K d.x)) "__init__") (some (some (.ref (He.ma K (He.ga K d.x) "__init__")))) && (decide (PySem.W.typeIn K (.ref (He.ma K (He.ga K d.x) "__init__")) = some (.type "function")) &&
  (match K.lookup (He.ma K (He.ga K d.x) "__init__") with
    | some ⟨_, _, .func fd, _⟩ => PySem.W.codeIn K fd.code d.qual && (fileB K file fd.code && (cellB K (He.ga K d.x) fd.closure && decide (fd.defaults = .none)))
    | _ => false))
abbrev FnC : Type := Option (Str × Str × Arguments × FuncBody × Scope × Addr × Addr)
def fnC (K : PySem.W.Frag) (d : XD0) : FnC := match K.lookup (He.ma K (He.ga K d.x) "__init__") with
  | some ⟨_, _, .func fd, _⟩ => some (fd.name, fd.qualname, fd.params, fd.body, fd.scope, fd.globals, fd.builtins)
  | _ => none
def XD0.val (d : XD0) : FnC := some ("__init__", d.qual, defArgs d.st, .stmts (defBody d.st), defScope d.st, mainGlobals, builtinsNs)
theorem fileB_ok {K : PySem.W.Frag} {file : Str} {cd : Value} (h : fileB K file cd = true) : ∃ c oc od vs sl f tf, cd = .ref c ∧ K.lookup c = some ⟨oc, od, .fields vs, sl⟩ ∧ vs[2]? = some (.str f tf) ∧ (file == f) = true := by
  cases cd with
  | ref c =>
    have h1 : (match K.lookup c with
      | some ⟨_, _, .fields vs, _⟩ => (match (vs[2]? : Option Value) with
        | some (.str f _) => file == f
        | _ => false)
      | _ => false) = true := h
    cases q : K.lookup c with
    | none =>
      rw [q] at h1
      cases h1
    | some o =>
      obtain ⟨oc, od, dt, sl⟩ := o
      rw [q] at h1
      cases dt with
      | fields vs =>
        have h2 : (match (vs[2]? : Option Value) with
          | some (.str f _) => file == f
          | _ => false) = true := h1
        cases q2 : vs[2]? with
        | none =>
          rw [q2] at h2
          cases h2
        | some v =>
          rw [q2] at h2
          cases v with
          | str f tf => exact ⟨c, oc, od, vs, sl, f, tf, rfl, q, q2, h2⟩
          | _ => cases h2
      | _ => cases h1
  | _ => cases h
theorem cellB_ok {K : PySem.W.Frag} {C : Addr} {cl : List (Str × Addr)} (h : cellB K C cl = true) : ∃ cc oc od sl, cl = [(("__class__" : Str), cc)] ∧ K.lookup cc = some ⟨oc, od, .cell (some (.ref C)), sl⟩ := by
  match cl, h with
  | [(n, cc)], h =>
    obtain ⟨h1, h2⟩ := He.ba (show (decide (n = "__class__") && (match K.lookup cc with
      | some ⟨_, _, .cell (some (.ref D)), _⟩ => decide (D = C)
      | _ => false)) = true from h)
    cases q : K.lookup cc with
    | none =>
      rw [q] at h2
      cases h2
    | some o =>
      obtain ⟨oc, od, dt, sl⟩ := o
      rw [q] at h2
      cases dt with
      | cell v =>
        cases v with
        | none => cases h2
        | some v =>
          cases v with
          | ref D =>
            have e : D = C := of_decide_eq_true h2
            rw [e] at q
            have en : n = "__class__" := of_decide_eq_true h1
            rw [en]
            exact ⟨cc, oc, od, sl, rfl, q⟩
          | _ => cases h2
      | _ => cases h2
theorem xc_of {K : PySem.W.Frag} {d : XD0} {B : String} (h : xcB K d = true) (FB : ∃ (i : String) (bm : List Value), ExcBaseFacts B d.newId i bm) (KF : PySem.W.KxsFacts d.BI d.initId) (IF : InitF d.BI d.initId) (pass : ∀ self, refuseLoop self "__setattr__" d.bmT = pure ())
    (h1 : d.bmT.contains (.type "object") = true) (h2 : d.bmT.contains (.type B) = true) (h3 : d.bmT.contains (.type "AttributeError") = false) (h4 : d.bmT.contains (.type "NameError") = false) : XC K (He.ga K d.x) B d.newId d.BI d.initId d.bmT ∧ XfC K (He.ga K d.x) := by
  unfold xcB at h
  obtain ⟨a1, h⟩ := He.ba h
  obtain ⟨a2, h⟩ := He.ba h
  obtain ⟨a3, h⟩ := He.ba h
  obtain ⟨a4, h⟩ := He.ba h
  obtain ⟨a5, h⟩ := He.ba h
  obtain ⟨a6, h⟩ := He.ba h
  obtain ⟨a7, h⟩ := He.ba h
  obtain ⟨a8, h⟩ := He.ba h
  obtain ⟨a9, h⟩ := He.ba h
  obtain ⟨a10, a11⟩ := He.ba h
  exact ⟨⟨FB, KF, IF, pass, h1, h2, h3, h4, a1, a2, He.eqO_ok a3, of_decide_eq_true a4, of_decide_eq_true a5, a6, He.eqO_ok a7, of_decide_eq_true a8, of_decide_eq_true a9, He.eqO_ok a10⟩, xfB_ok a11⟩
theorem xi_of {P : Program} {K : PySem.W.Frag} {d : XD0} (h : xiB K P.main.file d = true) (e : fnC K d = d.val) : XI P K (He.ga K d.x) (He.ma K (He.ga K d.x) "__init__") d.qual d.st := by
  unfold xiB at h
  obtain ⟨a1, h⟩ := He.ba h
  obtain ⟨a2, h⟩ := He.ba h
  refine ⟨He.eqO_ok a1, of_decide_eq_true a2, ?_⟩
  unfold fnC at e
  cases q : K.lookup (He.ma K (He.ga K d.x) "__init__") with
  | none =>
    rw [q] at h
    cases h
  | some o =>
    obtain ⟨oc, od, dt, osl⟩ := o
    rw [q] at h e
    cases dt with
    | func fd =>
      obtain ⟨n1, n2, n3, n4, n5, n6, n7, n8, n9, n10, n11, n12, n13, n14, n15⟩ := fd
      have e2 : (some (n1, n2, n3, n4, n5, n6, n15) : FnC) = some (("__init__" : Str), d.qual, defArgs d.st, FuncBody.stmts (defBody d.st), defScope d.st, mainGlobals, builtinsNs) := e
      simp only [Option.some.injEq, Prod.mk.injEq] at e2
      obtain ⟨h1, h2, h3, h4, h5, h6, h7⟩ := e2
      subst h1 h2 h3 h4 h5 h6 h7
      obtain ⟨k1, k2⟩ := He.ba h
      obtain ⟨k2, k3⟩ := He.ba k2
      obtain ⟨k3, k4⟩ := He.ba k3
      obtain ⟨c, oc1, od1, vs, sl1, f, tf, e1, l1, l2, l3⟩ := fileB_ok k2
      obtain ⟨cc, oc2, od2, sl2, e3, l4⟩ := cellB_ok k3
      have e4 : n8 = .none := of_decide_eq_true k4
      dsimp only at e1 e3 k1
      subst e1 e3 e4
      exact ⟨oc, od, n9, n10, n11, n12, c, n14, osl, cc, oc1, oc2, od1, od2, vs, sl1, sl2, f, tf, rfl, k1, l1, l2, l3, l4⟩
    | _ => cases h
/-- an own class whose instances are asked by isinstance and compared by != -/
structure NsC (K : PySem.W.Frag) (C : Addr) : Prop where
  ne : PySem.W.findIn K (.ref C) "__ne__" = some (some (.builtin "object.__ne__"))
  sub : PySem.W.subIn K (.ref C) (.type "object") = some true
  ha : PySem.W.findIn K (.ref C) "__class__" = some (some (.builtin "object.__class__"))
  hn : PySem.W.specialIn K (.builtin "object.__class__") "__get__" = some (some (.builtin "getset_descriptor.__get__"))
  htk : PySem.W.takesIn K (.builtin "object.__class__") = some true
  hm : PySem.W.mroIn K C (.type "object") = some true
def neB (K : PySem.W.Frag) (x : Str) : Bool :=
  He.eqO (PySem.W.findIn K (.ref (He.ga K x)) "__ne__") (some (some (.builtin "object.__ne__"))) && (decide (PySem.W.subIn K (.ref (He.ga K x)) (.type "object") = some true) &&
  (He.eqO (PySem.W.findIn K (.ref (He.ga K x)) "__class__") (some (some (.builtin "object.__class__"))) && (He.eqO (PySem.W.specialIn K (.builtin "object.__class__") "__get__") (some (some (.builtin "getset_descriptor.__get__"))) &&
  (decide (PySem.W.takesIn K (.builtin "object.__class__") = some true) && decide (PySem.W.mroIn K (He.ga K x) (.type "object") = some true)))))
theorem nsC_of {K : PySem.W.Frag} {x : Str} (h : neB K x = true) : NsC K (He.ga K x) := by
  unfold neB at h
  obtain ⟨a1, h⟩ := He.ba h
  obtain ⟨a2, h⟩ := He.ba h
  obtain ⟨a3, h⟩ := He.ba h
  obtain ⟨a4, h⟩ := He.ba h
  obtain ⟨a5, a6⟩ := He.ba h
  exact ⟨He.eqO_ok a1, of_decide_eq_true a2, He.eqO_ok a3, He.eqO_ok a4, of_decide_eq_true a5, of_decide_eq_true a6⟩
/-! ### the Hook -/
structure SaysS (P : Program) (fa : List He.Fa) (fn : List He.DefD) (xs : List XD0) (tf : List He.Defn) (ns : List Str) (h : Heap) (K : PySem.W.Frag) : Prop where
  d : He.SaysD fa fn K
  xc : ∀ x ∈ xs, xcB K x = true
  xi : ∀ x ∈ xs, xiB K P.main.file x = true
  xv : xs.map (fnC K) = xs.map XD0.val
  ns : ∀ x ∈ ns, neB K x = true
  nd : (tf.map fun p => (He.cT K p).2).Nodup
  hd : ∀ p ∈ tf, PySem.W.codeHdIn K (He.cT K p).1 (He.cT K p).2 = true
  out : ∀ p ∈ tf, K.lookup (He.cT K p).2 = none
  empty : ∀ p ∈ tf, h.get? (He.cT K p).2 = some { cls := .none, data := .fields #[] }
abbrev AlS : Type := He.AlD × (Bool × List FnC)
def obsS (P : Program) (n : Nat) (fa : List He.Fa) (fn : List He.DefD) (xs : List XD0) (tf : List He.Defn) (ns : List Str) (g : Addr → Option Obj) : AlS :=
  (He.obsD fa fn (He.frT g (asS g n)), ((xs.all fun x => xcB (He.frT g (asS g n)) x && xiB (He.frT g (asS g n)) P.main.file x) && (He.tabsB g tf (He.frT g (asS g n)) && (decide (tf.map fun p => (He.cT (He.frT g (asS g n)) p).2).Nodup && ns.all (neB (He.frT g (asS g n))))), xs.map (fnC (He.frT g (asS g n)))))
def valS (fn : List He.DefD) (xs : List XD0) : AlS := (He.valD fn, (true, xs.map XD0.val))
theorem saysS_of {P : Program} {n : Nat} {fa : List He.Fa} {fn : List He.DefD} {xs : List XD0} {tf : List He.Defn} {ns : List Str} {h : Heap} (e : obsS P n fa fn xs tf ns h.get? = valS fn xs) : SaysS P fa fn xs tf ns h (He.frT h.get? (asS h.get? n)) := by
  have e1 : He.obsD fa fn (He.frT h.get? (asS h.get? n)) = He.valD fn := congrArg (fun z : AlS => z.1) e
  have e2 : ((xs.all fun x => xcB (He.frT h.get? (asS h.get? n)) x && xiB (He.frT h.get? (asS h.get? n)) P.main.file x) && (He.tabsB h.get? tf (He.frT h.get? (asS h.get? n)) && (decide (tf.map fun p => (He.cT (He.frT h.get? (asS h.get? n)) p).2).Nodup && ns.all (neB (He.frT h.get? (asS h.get? n)))))) = true := congrArg (fun z : AlS => z.2.1) e
  have e3 : xs.map (fnC (He.frT h.get? (asS h.get? n))) = xs.map XD0.val := congrArg (fun z : AlS => z.2.2) e
  obtain ⟨h1, h2⟩ := He.ba e2
  obtain ⟨h2, hne⟩ := He.ba h2
  obtain ⟨hnd, hne⟩ := He.ba hne
  have key : ∀ p ∈ tf, PySem.W.codeHdIn (He.frT h.get? (asS h.get? n)) (He.cT (He.frT h.get? (asS h.get? n)) p).1 (He.cT (He.frT h.get? (asS h.get? n)) p).2 = true ∧ ∃ o, h.get? (He.cT (He.frT h.get? (asS h.get? n)) p).2 = some o ∧ He.emptyTab o = true := fun p hp => by
    obtain ⟨h3, h4⟩ := He.ba (List.all_eq_true.mp h2 p hp)
    refine ⟨h3, ?_⟩
    cases q : h.get? (He.cT (He.frT h.get? (asS h.get? n)) p).2 with
    | none =>
      rw [q] at h4
      cases h4
    | some o =>
      rw [q] at h4
      exact ⟨o, rfl, h4⟩
  refine ⟨e1, fun x hx => (He.ba (List.all_eq_true.mp h1 x hx)).1, fun x hx => (He.ba (List.all_eq_true.mp h1 x hx)).2, e3, fun x hx => List.all_eq_true.mp hne x hx, of_decide_eq_true hnd, fun p hp => (key p hp).1, fun p hp => ?_, fun p hp => ?_⟩
  · obtain ⟨_, o, q, z⟩ := key p hp
    exact He.frT_none q z
  · obtain ⟨_, o, q, z⟩ := key p hp
    rw [q, He.emptyTab_eq z]
def hookS (P : Program) (n : Nat) (fa : List He.Fa) (fn : List He.DefD) (xs : List XD0) (tf : List He.Defn) (ns : List Str) : PySem.W.Hook where
  α := AlS
  obs := fun s => obsS P n fa fn xs tf ns s.heap.get?
  val := fun _ => valS fn xs
  says := fun _ h => ∃ K : PySem.W.Frag, K.In h ∧ SaysS P fa fn xs tf ns h K
  of := fun _ _ e => ⟨_, He.frT_in, saysS_of e⟩
  keeps := fun _ _ _ ⟨K, hK, c⟩ k => ⟨K, PySem.W.Frag.In.keeps hK k, ⟨c.d, c.xc, c.xi, c.xv, c.ns, c.nd, c.hd, c.out, fun p hp => k _ _ (c.empty p hp)⟩⟩
theorem obsS_eq {P : Program} {n : Nat} {fa : List He.Fa} {fn : List He.DefD} {xs : List XD0} {tf : List He.Defn} {ns : List Str} {g : Addr → Option Obj} {s : Shared} (h : ∀ a, g a = s.heap.get? a) : obsS P n fa fn xs tf ns g = (hookS P n fa fn xs tf ns).obs s := by
  have e : g = s.heap.get? := funext h
  rw [e] <;> rfl
theorem SaysS.xiAt {P : Program} {fa : List He.Fa} {fn : List He.DefD} {xs : List XD0} {tf : List He.Defn} {ns : List Str} {h : Heap} {K : PySem.W.Frag} (c : SaysS P fa fn xs tf ns h K) (i : Nat) {d : XD0} (e : xs[i]? = some d := by rfl) :
    XI P K (He.ga K d.x) (He.ma K (He.ga K d.x) "__init__") d.qual d.st := by
  have q : (xs.map (fnC K))[i]? = (xs.map XD0.val)[i]? := by rw [c.xv]
  rw [List.getElem?_map, List.getElem?_map, e] at q
  exact xi_of (c.xi d (List.mem_of_getElem? e)) (Option.some.inj q)
end K35
set_option maxHeartbeats 2000000
/-! try with several clauses except X as n, all of one name. -/
namespace K35
open PySem PySem.Spec PyProof.Rows L2
abbrev TSu := Addr → Value → Option Addr → TS
/-- behind the suite the name's slot is empty -/
def goneD (i : Nat) (D : Ends) : Ends := { nx := fun σ' H' => D.nx (σ'.set i none) H', rt := D.rt, bk := fun σ' H' => D.bk (σ'.set i none) H', ct := fun σ' H' => D.ct (σ'.set i none) H' }
def wManyAs (K : PySem.W.Frag) (i : Nat) (Wout : WX) (D : Ends) : List (Value × TSu) → WX
  | [] => Wout
  | (c, ts) :: r => fun cls d σ H => ∃ b, PySem.W.exmOne K cls c = some b ∧ (b = true → ∀ a, H a = none → (σ.set i (some (V.ref a)))[i]? = some (some (V.ref a)) → ts a cls d (goneD i D) (σ.set i (some (.ref a))) H) ∧ (b = false → wManyAs K i Wout D r cls d σ H)
inductive HdsAs (X : Cx) (n : Str) : List ExceptHandler → List (Value × TSu) → Prop
  | nil : HdsAs X n [] []
  | cons {x : Str} {c : Value} {ts : TSu} {b₀ : Stmt} {suite : List Stmt} {np pos' : Pos} {hds : List ExceptHandler} {l : List (Value × TSu)} (hc : Names X x c)
      (hsu : ∀ (a : Addr) (oe : Obj) (cls : Value) (d : Option Addr) (pn : List (Addr × Obj)), Zc cls d oe → (∃ vs, oe.data = .fields vs) → PSs (X.suite a ((a, oe) :: pn)) (b₀ :: suite) (ts a cls d)) (r : HdsAs X n hds l) :
      HdsAs X n (.ExceptHandler (some (.Name x np)) (some n) (b₀ :: suite) pos' :: hds) ((c, ts) :: l)
section
variable {X : Cx} {n : Str} {i : Nat} {body : List Stmt} {h₀ : ExceptHandler} {hds : List ExceptHandler} {l : List (Value × TSu)} {pos : Pos} {tb : WX → TS} {Wout : WX}
theorem ps_try_manyAs (hs : X.stack = X.env :: X.outer) (hf : X.env.frame = some X.env.locals) (hN : X.N.Nodup) (hi : X.N[i]? = some n) (hln : X.env.kindOf n = some .local) (tk : Takes X Wout)
    (hb : ∀ (W : WX) (pn : List (Addr × Obj)) (xe : Value → Shared → Prop), Takes (X.tr pn xe) W → PassesOwn (model X.prog X.w) X.A X.env xe → PSs (X.tr pn xe) body (tb W))
    (hh : HdsAs X n (h₀ :: hds) l) : PS X (.Try body (h₀ :: hds) [] [] pos) (fun D σ H => tb (wManyAs X.K i Wout D l) D σ H) := by
  refine ⟨fun pins s σ H D I h => ?_⟩
  have ok := I.ok
  have hfr : X.A.frames = some (X.env :: X.outer) := by rw [ok.frames, hs]
  have hloc : Loc X.env.scope n := .inl hln
  refine wpAny_Try_except ?_
  refine wpAny_mono ((hb (wManyAs X.K i Wout D l) (X.pn ++ pins) (fun e s₁ => wpAny (model X.prog X.w) X.A (noteFrame e X.env) (fun _ s₂ => wpAny (model X.prog X.w) X.A (setFlight e none) (fun _ s₃ =>
    wpAny (model X.prog X.w) X.A (handleBy e X.env (h₀ :: hds)) (SP X pins D) X.xe s₃) X.xe s₂) X.xe s₁) (fun u s' xx => ?_) PassesOwn.looking).run [] s σ H D (I.toTry _) h) (fun f s1 hsp => ?_) (fun e s1 he => he)
  · -- the catch
    obtain ⟨a, B, sI, pins', σ', H', cls, d, rfl, J', nb, up, sky, na, os, ag, w⟩ := xx
    have J : Inv X pins σ' H' sI := J'.ofTry ok
    have sky' : Sky B (X.env :: X.outer) a (Zc cls d) X.env.locals s'.heap := by rw [← hs]; exact sky
    show wpAny (model X.prog X.w) X.A (noteFrame (.ref a) X.env) _ _ _
    refine Sky.land Zc.steady hfr hf sky' fun h3 fl3 up3 => ?_
    have J3 : Inv X pins σ' H' { s' with heap := h3 } := J.landed nb fl3.1 (up.trans up3) os ag
    obtain ⟨oe3, vs3, he3, hz3, hd3⟩ := fl3.there
    have notFr : ∀ {h : Heap} {o : Obj} {vs : Array Value}, h.FunFrames B (X.env :: X.outer) → h.get? a = some o → o.data = .fields vs → a ∉ frs (X.env :: X.outer) := fun {h o vs} ff e dd hm => by
      obtain ⟨_, o', e', hnf⟩ := ff.mem hm
      rw [e] at e'; cases e'
      exact hnf _ dd
    have nfr := notFr fl3.2.2.1 he3 hd3
    have nL : a ≠ X.env.locals := fun z => nfr (List.mem_filterMap.mpr ⟨X.env, List.mem_cons_self, by rw [hf, z]⟩)
    have nF : a ∉ X.fs := fun hm => by
      obtain ⟨e, he, q⟩ := List.mem_filterMap.mp hm
      exact nfr (List.mem_filterMap.mpr ⟨e, List.mem_cons_of_mem _ he, q⟩)
    have S3 := J3.suite he3 hd3 na nL nF
    have go : ∀ {hds' : List ExceptHandler} {l' : List (Value × TSu)}, HdsAs X n hds' l' → wManyAs X.K i Wout D l' cls d σ' H' →
        wpAny (model X.prog X.w) X.A (handleBy (.ref a) X.env hds') (SP X pins D) X.xe { s' with heap := h3 } := by
      intro hds' l' hk
      induction hk with
      | nil =>
        intro w
        refine wpAny_handleBy_nil ?_
        obtain ⟨k1, k2, k3, oe, vs, T, oT, ts', he, hz, hd, h1, hr⟩ := id fl3
        unfold PySem.passOn
        refine wpAny_bind (wpAny_field he hd h1 ?_)
        rw [if_neg (show ¬ ((Value.ref T == Value.none) = true) from by simp)]
        have fin : wpAny (model X.prog X.w) X.A (setFlight (.ref a) X.env.frame) (fun _ s4 => wpAny (model X.prog X.w) X.A (throw (.ref a) : Sem Flow) (SP X pins D) X.xe s4) X.xe { s' with heap := h3 } := by
          rw [hf]
          refine HandSPX.setFlight_upZ fl3 fun h4 hh4 up4 => wpAny_throw (tk _ _ ?_)
          exact ⟨a, B, sI, pins, σ', H', cls, d, rfl, J, nb, (up.trans up3).trans up4, .inr (.inr (by rw [hs]; exact hh4)), na, os, ag, w⟩
        first
          | exact wpAny_bind (wpAny_pure (wpAny_bind fin))
          | exact wpAny_bind fin
      | @cons x c ts b₀ suite np pos' hds2 l2 hc hsu r ih =>
        intro w
        obtain ⟨b, hb1, hyes, hno⟩ := w
        refine wpAny_handleBy_cons (codeAny_handlers_test ?_) (by intro q; cases q)
        have LT : PySem.W.Looks (model X.prog X.w) h3 (typeOf (.ref a)) cls := fun A Q E s k q => wpAny_typeOf_ref (k _ _ he3) (by rw [hz3.1]; exact q)
        have LM := PySem.W.exm_one (M := model X.prog X.w) (J3.kIn) LT hb1
        have test : ∀ {Q : Value → Shared → Prop} {E : Value → Shared → Prop}, Q c { s' with heap := h3 } → wpAny (model X.prog X.w) (X.A.mark (some (.ref a))) (eval (.Name x np) X.env) Q E { s' with heap := h3 } := fun {Q E} q => by
          obtain ⟨hg, hdbg, hm | ⟨hm, hv, hnn⟩⟩ := hc
          · exact ld_glob (X := X.suite a ((a, oe3) :: (X.pn ++ pins))) S3 hg hm q hdbg
          · exact ld_blt (X := X.suite a ((a, oe3) :: (X.pn ++ pins))) S3 hg hm hv q hnn hdbg
        refine test (LM.here ?_)
        cases b with
        | true =>
          refine codeAny_handlers_suite_as ?_
          refine HandSPX.lands_againZ fl3 fun h4 fl4 up4 => ?_
          have J4 : Inv X pins σ' H' { s' with heap := h4 } := J.landed nb fl4.1 ((up.trans up3).trans up4) os ag
          obtain ⟨oe4, vs4, he4, hz4, hd4⟩ := fl4.there
          have S4 := J4.suite he4 hd4 na nL nF
          refine store_ok (X := X.suite a ((a, oe4) :: (X.pn ++ pins))) (v := .ref a) S4 hN hi hloc rfl (fun s5 S5 => ?_) (.inr hln)
          refine wpAny_mono ((hsu a oe4 cls d (X.pn ++ pins) hz4 ⟨_, hd4⟩).run [] s5 _ H' _ S5 (hyes rfl a na (List.getElem?_set_self (by rw [J4.len]; exact (List.getElem?_eq_some_iff.mp hi).1)))) (fun f s6 hsp => ?_) (fun _ _ z => False.elim z)
          have end_ : ∀ {σ6 : L2.St} {H6 : Hp} {Q : Shared → Prop}, Inv (X.suite a ((a, oe4) :: (X.pn ++ pins))) [] σ6 H6 s6 → (∀ s7, Inv X pins (σ6.set i none) H6 s7 → Q s7) →
              wpAny (model X.prog X.w) X.A (do bindName X.env n .none; unbindBehindTheSuite X.env n pos') (fun _ s7 => Q s7) X.xe s6 := fun {σ6 H6 Q} S6 hq => gone_ok (S6.unsuite ok) hN hi hln hq
          cases f with
          | next =>
            obtain ⟨σ6, H6, S6, q6⟩ := hsp
            exact end_ S6 fun s7 J7 => ⟨_, _, J7, q6⟩
          | brk =>
            obtain ⟨σ6, H6, S6, q6⟩ := hsp
            exact end_ S6 fun s7 J7 => ⟨_, _, J7, q6⟩
          | cont =>
            obtain ⟨σ6, H6, S6, q6⟩ := hsp
            exact end_ S6 fun s7 J7 => ⟨_, _, J7, q6⟩
          | ret u =>
            obtain ⟨v6, σ6, H6, S6, r6, q6⟩ := hsp
            exact end_ S6 fun s7 J7 => ⟨_, _, _, J7, r6, q6⟩
        | false =>
          show wpAny _ X.A (handleBy (.ref a) X.env hds2) _ _ _
          exact ih (hno rfl)
    exact go hh w
  · cases f with
    | next =>
      obtain ⟨σ', H', J', q⟩ := hsp
      exact wpAny_execs_nil ⟨σ', H', J'.ofTry ok, q⟩
    | brk =>
      obtain ⟨σ', H', J', q⟩ := hsp
      exact ⟨σ', H', J'.ofTry ok, q⟩
    | cont =>
      obtain ⟨σ', H', J', q⟩ := hsp
      exact ⟨σ', H', J'.ofTry ok, q⟩
    | ret u =>
      obtain ⟨v, σ', H', J', r, q⟩ := hsp
      exact ⟨v, σ', H', J'.ofTry ok, r, q⟩
end
end K35
set_option maxHeartbeats 4000000
/-! enumerate(tuple); d.items() of a dict whose keys are tuples. -/
namespace K35
open PySem PySem.Spec PyProof.Rows L2
theorem meets_enum1 {v : Value} {o : Obj} {H : Heap → Prop} (B : Begins v o H) :
    Meets (Builtin.«enumerate.__new__» ⟨[.type "enumerate", v], []⟩) (fun _ R s => H s.heap ∧
      R (.ok (.ret (.ref (s.heap.push o).objs.size))) { s with heap := (s.heap.push o).push { cls := .type "enumerate", data := .fields #[.none, .bool false, .ref s.heap.objs.size, rawInt 0, .none, .none] } }) :=
  .of_wp fun prog w A R s h => by
    obtain ⟨hp, g, d, tk, os⟩ := s; obtain ⟨h1, h⟩ := h
    have hsub := sub_enumerate
    have q1 : ∀ {A' : Around} {E : Value → Shared → Prop} {Q : Value → Shared → Prop}, Q (.ref hp.objs.size) ⟨hp.push o, g, d, tk, os⟩ → wpAny (model prog w) A' (pyIter v) Q E ⟨hp, g, d, tk, os⟩ :=
      fun q => B.iter prog w _ _ ⟨hp, g, d, tk, os⟩ _ h1 q
    wp_walk using q1
    refine wpAny_stack_any fun st => wpAny_pure ?_
    split
    · rename_i c _ _ _ _ _
      cases (c == Value.type "enumerate")
      · wp_walk using q1
        exact ⟨_, rfl, h⟩
      · wp_walk using q1
        exact ⟨_, rfl, h⟩
    · wp_walk using q1
      exact ⟨_, rfl, h⟩
section
variable {prog : Program} {w : World} {A : Around} {E : Value → Shared → Prop} {s : Shared}
theorem enum_begins1 {v : Value} {o : Obj} {H : Heap → Prop} {Q : Value → Shared → Prop} (B : Begins v o H) (h1 : H s.heap)
    (h : ∀ h', IsEnum h' (s.heap.objs.size + 1) s.heap.objs.size 0 .none → h'.get? s.heap.objs.size = some o → h'.objs.size = s.heap.objs.size + 2 →
      (∀ b o, s.heap.get? b = some o → h'.get? b = some o) → Q (.ref (s.heap.objs.size + 1)) { s with heap := h' }) :
    wpAny (model prog w) A (call (.type "enumerate") [v]) Q E s := by
  refine callType_new F.called_enumerate (by decide) (F.typeCall_enumerate_1 _) (F.newCall_enumerate_1 _) (fun obj => F.args_object_init_2 obj _) F.entry_enumerate_new
    (meets_enum1 B) ⟨h1, ?_⟩
  have hz : (s.heap.push o).objs.size = s.heap.objs.size + 1 := Heap.size_push ..
  show _ ∧ _
  rw [hz]
  have he : IsEnum ((s.heap.push o).push { cls := .type "enumerate", data := .fields #[.none, .bool false, .ref s.heap.objs.size, rawInt 0, .none, .none] }) (s.heap.objs.size + 1) s.heap.objs.size 0 .none := by
    have := Heap.get?_push_size (s.heap.push o) (o := { cls := .type "enumerate", data := .fields #[.none, .bool false, .ref s.heap.objs.size, rawInt 0, .none, .none] }) rfl
    rw [hz] at this; exact this
  refine ⟨⟨_, he, rfl⟩, h _ he (Heap.get?_push_of_some _ (Heap.get?_push_size _ B.free)) (by rw [Heap.size_push, hz]) fun b o x => Heap.get?_push_of_some _ (Heap.get?_push_of_some _ x)⟩
end
/-- the tuple at a, each item in a new pair with its place -/
def ItET (K : PySem.W.Frag) (a : Addr) : It :=
  ⟨fun i H => ∃ (xs : List V) (x : V), SqT K H a xs ∧ xs[i]? = some x, fun i H v H' => ∃ T x, v = .ref T ∧ H T = none ∧ H' = upd H T (.tup [.int (i : Nat), x]) ∧ ∀ xs, SqT K H a xs → xs[i]? = some x, fun i H => ∃ xs : List V, SqT K H a xs ∧ xs.length ≤ i⟩
theorem turn_enumT {P : Program} {w : World} {K : PySem.W.Frag} {elts : List Expr} {kk : Nat} {tpos : Pos} (a e it : Addr) :
    Turn P w K (.Tuple elts kk tpos) (ItET K a) [e, it] e (fun i h => (∃ old, IsEnum h e it ((i : Nat) : Int) old) ∧ h.IsTupleIter it a i ∧ e ≠ it ∧ e ≠ a ∧ a ≠ it) where
  mem := by simp
  obj := fun i h st b hb => by
    obtain ⟨⟨old, he⟩, ⟨o, ho, hc, hd⟩, _⟩ := st
    have e' : b = e ∨ b = it := by simpa using hb
    rcases e' with z | z
    · rw [z]; exact ⟨_, he, fun v q => nomatch q⟩
    · rw [z]; exact ⟨o, ho, fun v q => by rw [hd] at q; cases q⟩
  keep := fun i h h' st k => let ⟨⟨old, he⟩, hi, hne⟩ := st; ⟨⟨old, k e (by simp) _ he⟩, hi.at fun o q => k it (by simp) o q, hne⟩
  item := by
    intro X hP hw hK hc i pins s σ H E I hf st hg
    subst hP hw hK
    obtain ⟨⟨old, he⟩, hit, hne, hea, hai⟩ := st
    obtain ⟨xs, x, hq, hx⟩ := hg
    obtain ⟨its, rv, p, hz⟩ := I.tuple hq
    obtain ⟨u, hu, ru⟩ := rv.get hx
    have hel : e < s.heap.objs.size := Heap.lt_size he
    have hil : it < s.heap.objs.size := by obtain ⟨_, q, _⟩ := hit; exact Heap.lt_size q
    have hlt : i < its.toArray.size := by
      obtain ⟨hh, _⟩ := List.getElem?_eq_some_iff.mp hu
      simpa using hh
    refine PySem.wpAny_pyNext_enum_itemC (fp := [it, a]) (Draws.tuple (A := X.A.in1) (I.ok.hd hc) it a hai its.toArray) he ⟨hit, p⟩ hlt hne (by simp [hne, hea]) fun u' h' tk hP' ho hit' hT hsz hk => ?_
    obtain rfl : u = u' := by
      have z : its.toArray[i]? = some u := by simpa using hu
      exact Option.some.inj (z.symm.trans hP')
    refine ⟨_, rfl, wpAny_letOwnedTupleGo_enum (s := { s with heap := h', toks := tk + 1 }) ho fun h'' he' sb => ?_⟩
    have hT2 : h''.get? s.heap.objs.size = some { cls := .type "tuple", data := .seq #[.int i tk, u] } := (sb.2 _ (Nat.ne_of_gt hel)).trans hT
    have new : ObjOk X.prog X.w (upd H s.heap.objs.size (.tup [.int (i : Nat), x])) h'' s.heap.objs.size (.tup [.int (i : Nat), x]) :=
      ⟨by show 2 ≤ sizeLine; decide, [.int i tk, u], .cons ⟨_, rfl⟩ (.cons ru .nil), ⟨_, hT2, rfl, _, rfl⟩⟩
    have I1 : Inv X pins σ (upd H s.heap.objs.size (.tup [.int (i : Nat), x])) { s with heap := h'', toks := tk + 1 } :=
      I.turnedNew (ch := [e, it]) (fun b ob hb q => (sb.2 b (fun z => hb (by simp [z]))).trans (hk b ob (fun z => hb (by simp [z])) (fun z => hb (by simp [z])) q)) hf (Nat.le_refl _) new
    refine ⟨.ref s.heap.objs.size, _, I1, rfl, ⟨_, x, rfl, I.hok.fresh (Nat.le_refl _), rfl, fun ys hy => by rw [I.tuple_inj hy hq]; exact hx⟩, ⟨⟨u, ?_⟩, hit'.1.at fun o q => (sb.2 it (Ne.symm hne)).trans q, hne, hea, hai⟩, fun b hb => ?_⟩
    · have e1 : ((i + 1 : Nat) : Int) = (i : Int) + 1 := by omega
      rw [e1]; exact he'
    · have hb' : b < s.heap.objs.size := by
        have e' : b = e ∨ b = it := by simpa using hb
        rcases e' with z | z
        · rw [z]; exact hel
        · rw [z]; exact hil
      rw [upd_ne (Nat.ne_of_lt hb')]
      exact (hf b hb).1
  done := by
    intro X hP hw hK hc i pins s σ H E I hf st hg
    subst hP hw hK
    obtain ⟨⟨old, he⟩, hit, hne, hea, hai⟩ := st
    obtain ⟨xs, hq, hx⟩ := hg
    obtain ⟨its, rv, p, hz⟩ := I.tuple hq
    obtain ⟨f0, f1, f2, f3, f4, f5⟩ := hf it (by simp)
    have hl := rv.length
    have hT : s.TypeIs (.ref e) "enumerate" := ⟨_, he, rfl⟩
    unfold pyNext
    refine wpAny_bind (wpAny_attempt (wpAny_callSpecial?_slot (name := PySem.Str.ofString "__next__") hT F.slot_enumerate_next
      (wpAny_call_entry F.slot_enumerate_next hT F.entry_enumerate_next ?_ (F.args_enumerate_next_1 _))))
    show wpAny _ _ (field (.ref e) 2 >>= _) _ _ _
    refine wpAny_bind (wpAny_field he rfl (x := .ref it) rfl ?_)
    refine wpAny_bind (wpAny_nextOf_tuple_end (A := X.A.in1) (I.ok.hd hc) hit p (by simp; omega) fun h' x he' hx' => ?_)
    obtain ⟨o, ho, hcl⟩ := hx'
    refine wpAny_bind (wpAny_isInstance (T := "StopIteration") (b := true) ⟨o, ho, hcl⟩ isSubtype_stop ?_)
    exact wpAny_pure ⟨rfl, I.turned (t' := s.toks) (fun b o hb q => he' b o hb q) f0 f1 f3 f4 f5⟩
  self := fun A i s Q E st h => let ⟨⟨_, he⟩, _⟩ := st; wpAny_pyIter_enum he h
def iEnumT (K : PySem.W.Frag) (ta : TA) : TI := fun σ H R => ta σ H fun vs H1 => ∃ a xs, vs = [.ref a] ∧ SqT K H1 a xs ∧ R (ItET K a) H1
theorem pi_enumT {X : Cx} {e : Expr} {ta : TA} {p pos tpos : Pos} {elts : List Expr} {kk : Nat} (hg : Gl X "enumerate") (hm : X.mg "enumerate" = none) (ha : PA X [e] ta) (hs : starEach [e] X.env = [(false, eval e X.env)] := by rfl) :
    PI X (.Tuple elts kk tpos) (.Call (.Name "enumerate" p) [e] [] pos) (iEnumT X.K ta) := by
  refine ⟨fun pins s σ H R I h => ?_⟩
  refine Call_ (ld_blt I hg hm boot_enumerate (PyProof.Rows.callWith_type1 (thn (ha.run pos pins s σ H _ I h) fun us s1 ⟨vs, H1, I1, r1, q1⟩ => ?_) hs rfl))
  obtain ⟨a, xs, ex, hq, q⟩ := q1
  subst ex
  cases r1 with
  | cons r rr =>
    cases rr
    cases r
    obtain ⟨its, rv, p', hz⟩ := I1.tuple hq
    have hal : a < s1.heap.objs.size := by obtain ⟨_, q, _⟩ := p'; exact Heap.lt_size q
    refine enum_begins1 (begins_tuple a its.toArray) p' fun h' he hit hsz hk => wpAny_pyIter_enum he ?_
    have I2 : Inv X pins σ H1 { s1 with heap := h' } := I1.kept (t' := s1.toks) hk
    refine ⟨s1.heap.objs.size + 1, [s1.heap.objs.size + 1, s1.heap.objs.size], _, _, H1, rfl, I2, turn_enumT a (s1.heap.objs.size + 1) s1.heap.objs.size,
      ⟨⟨.none, he⟩, ⟨_, hit, rfl, rfl⟩, Nat.succ_ne_self _, Nat.ne_of_gt (Nat.lt_succ_of_lt hal), Nat.ne_of_lt hal⟩, fun b hb => ?_, q⟩
    have e' : b = s1.heap.objs.size + 1 ∨ b = s1.heap.objs.size := by simpa using hb
    have hle : s1.heap.objs.size ≤ b := by
      rcases e' with z | z
      · rw [z]; exact Nat.le_add_right _ _
      · rw [z]; exact Nat.le_refl _
    exact I1.fpOk hle (I1.hok.fresh hle)
theorem walk_enumT {K : PySem.W.Frag} {a : Addr} {xs : List V} : Walk (ItET K a) xs.length (fun H => SqT K H a xs) (YPair (fun i => some (.int (i : Nat))) (fun i => xs[i]?)) := by
  refine ⟨fun i _ hi q => ⟨xs, xs[i], q, by simp [hi]⟩, fun _ q => ⟨xs, q, Nat.le_refl _⟩, fun i H v H' _ q y => ?_⟩
  obtain ⟨T, x, h1, h2, h3, h4⟩ := y
  exact ⟨T, .int (i : Nat), x, h1, h2, h3, rfl, h4 xs q⟩
/-! ### items of a dict with tuple keys -/
section
variable {X : Cx} {pins : List (Addr × Obj)} {σ : L2.St} {H : Hp} {s : Shared} {d : Addr} {o : Obj}
theorem frzTV {kvs : List (List Key × V)} (I : Inv X pins σ H s) (h : H d = some (.frz o (.dT kvs))) :
    (d == sysModules) = false ∧ s.heap.get? d = some o ∧ o.ExactDict ∧ ∃ (es : Array DictEntry) (ep : Nat), o.data = .dict es ep ∧ es.size = kvs.length ∧
      ∀ (i : Nat) (k : List Key) (v : V), kvs[i]? = some (k, v) → ∃ (en : DictEntry) (q : Addr), es[i]? = some en ∧ en.key = .ref q ∧ H q = some (.tup (k.map kV)) ∧ RelV v en.val := by
  obtain ⟨hd, z, hs, xs, pr, o', es, ep, ho, hx, hdt, he, _⟩ := I.hok d _ h
  rw [hd] at ho
  cases ho
  refine ⟨hs, hd, hx, es, ep, hdt, ?_, fun i k v e => ?_⟩
  · have l1 : es.size = xs.length := size_of_entries he
    have l2 : kvs.length = xs.length := Paired.length pr
    omega
  · obtain ⟨b, hb, e1, e2, e3⟩ := paired_get pr e
    have q := entry_at he i
    rw [hb] at q
    exact ⟨_, b.2.1, q, rfl, e2, e3⟩
end
/-- the pairs, each a new tuple of the key's own tuple and the value -/
def ItIT (d : Addr) (o : Obj) (kvs : List (List Key × V)) : It :=
  ⟨fun i H => H d = some (.frz o (.dT kvs)) ∧ i < kvs.length, fun i H x H' => ∃ T q k v, kvs[i]? = some (k, v) ∧ H q = some (.tup (k.map kV)) ∧ x = .ref T ∧ H T = none ∧ H' = upd H T (.tup [.ref q, v]), fun i H => H d = some (.frz o (.dT kvs)) ∧ kvs.length ≤ i⟩
theorem turn_itemsT {P : Program} {w : World} {K : PySem.W.Frag} {d : Addr} {o : Obj} {es : Array DictEntry} {ep : Nat} {kvs : List (List Key × V)} {elts : List Expr} {kk : Nat} {tpos : Pos} (it : Addr) (hod : o.data = .dict es ep) :
    Turn P w K (.Tuple elts kk tpos) (ItIT d o kvs) [it] it (fun i h => ∃ ok ov, IsItemIter h it d i kvs.length ep ok ov) where
  mem := by simp
  obj := fun i h st b hb => by
    have e : b = it := by simpa using hb
    subst e
    obtain ⟨ok, ov, e⟩ := st
    exact ⟨_, e, fun v z => nomatch z⟩
  keep := fun i h h' st k => let ⟨ok, ov, e⟩ := st; ⟨ok, ov, k it (by simp) _ e⟩
  item := by
    intro X hP hw hK hc i pins s σ H E I hf st hg
    subst hP hw hK
    obtain ⟨hd, hi⟩ := hg
    obtain ⟨hs, hgd, hx, es', ep', hdt, hsz, ent⟩ := frzTV I hd
    obtain ⟨rfl, rfl⟩ := dict_ep hod hdt
    obtain ⟨⟨k, v⟩, hkv⟩ : ∃ p, kvs[i]? = some p := ⟨kvs[i], List.getElem?_eq_getElem hi⟩
    obtain ⟨en, q, hen, hkey, hq, rv⟩ := ent i k v hkv
    obtain ⟨ok, ov, he⟩ := st
    have hlt : it < s.heap.objs.size := Heap.lt_size he
    have hi2 : i < es'.size := by omega
    have hen2 : es'[i] = en := by
      rw [Array.getElem?_eq_getElem hi2] at hen
      exact Option.some.inj hen
    rw [← hsz] at he
    refine DT.nextI he ⟨o, hgd, hx, hdt⟩ hi2 fun h' ho hT hz hk => ?_
    rw [hen2] at ho hT
    refine ⟨_, rfl, wpAny_letOwnedTupleGo_items (s := { s with heap := h' }) ho fun h'' he' sb => ?_⟩
    have hT2 : h''.get? s.heap.objs.size = some { cls := .type "tuple", data := .seq #[en.key, en.val] } := (sb.2 _ (Nat.ne_of_gt hlt)).trans hT
    have new : ObjOk X.prog X.w (upd H s.heap.objs.size (.tup [.ref q, v])) h'' s.heap.objs.size (.tup [.ref q, v]) :=
      ⟨by show 2 ≤ sizeLine; decide, [en.key, en.val], .cons hkey (.cons rv .nil), ⟨_, hT2, rfl, _, rfl⟩⟩
    have I1 : Inv X pins σ (upd H s.heap.objs.size (.tup [.ref q, v])) { s with heap := h'' } :=
      I.turnedNew (t' := s.toks) (ch := [it]) (fun b ob hb e => (sb.2 b (by simpa using hb)).trans (hk b ob (by simpa using hb) e)) hf (Nat.le_refl _) new
    refine ⟨.ref s.heap.objs.size, _, I1, rfl, ⟨_, q, k, v, hkv, hq, rfl, I.hok.fresh (Nat.le_refl _), rfl⟩, ⟨en.key, en.val, ?_⟩, fun b hb => ?_⟩
    · rw [← hsz]; exact he'
    · have e : b = it := by simpa using hb
      rw [e, upd_ne (Nat.ne_of_lt hlt)]
      exact (hf it (by simp)).1
  done := by
    intro X hP hw hK hc i pins s σ H E I hf st hg
    subst hP hw hK
    obtain ⟨hd, hi⟩ := hg
    obtain ⟨f0, f1, f2, f3, f4, f5⟩ := hf it (by simp)
    obtain ⟨hs, hgd, hx, es', ep', hdt, hsz, ent⟩ := frzTV I hd
    obtain ⟨rfl, rfl⟩ := dict_ep hod hdt
    obtain ⟨ok, ov, he⟩ := st
    rw [← hsz] at he
    exact DT.endI (I.ok.hd hc) he ⟨o, hgd, hx, hdt⟩ (by omega) fun h' eb => ⟨rfl, I.turned (t' := s.toks) (fun b ob hb e => eb b ob hb e) f0 f1 f3 f4 f5⟩
  self := fun A i s Q E st h => let ⟨_, _, e⟩ := st; PySem.W.kcp_self e h
def iItemsT (td : TE) : TI := fun σ H R => td σ H fun x H1 => ∃ d o kvs, x = .ref d ∧ H1 d = some (.frz o (.dT kvs)) ∧ R (ItIT d o kvs) H1
theorem pi_itemsT {X : Cx} {e : Expr} {td : TE} {apos cpos : Pos} {elts : List Expr} {kk : Nat} {tpos : Pos} (he : PE X e td) (hbase : attributeBase e "items" X.env (eval e X.env) = eval e X.env := by rfl) (hline : (apos.endLine == cpos.line) = true := by rfl) :
    PI X (.Tuple elts kk tpos) (.Call (.Attribute e "items" apos) [] [] cpos) (iItemsT td) := by
  refine ⟨fun pins s σ H R I h => ?_⟩
  refine wpAny_Call_method (T := "dict") (id := "dict.items") hbase rfl hline F.plainAttrs_dict F.slot_dict_items F.type_dict_items (thn (he.run pins s σ H _ I h) fun u s1 ⟨x, H1, I1, rx, d, o, kvs, ex, hd, q⟩ => ?_)
  subst ex
  obtain rfl : u = Value.ref d := rx
  obtain ⟨hs, hgd, hx, es, ep, hdt, hsz, ent⟩ := frzTV I1 hd
  have raw : DT.Raw s1.heap d es ep := ⟨o, hgd, hx, hdt⟩
  have I2 : Inv X pins σ H1 { s1 with heap := s1.heap.push { cls := .type "dict_items", data := .fields #[.ref d] } } := I1.kept (t' := s1.toks) fun b ob q => Heap.get?_push_of_some _ q
  refine ⟨raw.typeIs, ?_, ?_⟩
  · intro b e
    cases e
    exact ⟨o, hgd, hx.2.1⟩
  have fin : wpAny (model X.prog X.w) X.A (pyIter (.ref s1.heap.objs.size)) (PIE X pins σ (.Tuple elts kk tpos) R) X.xe { s1 with heap := s1.heap.push { cls := .type "dict_items", data := .fields #[.ref d] } } := by
    refine DT.iterI (v := s1.heap.objs.size) (d := d) ⟨_, Heap.get?_push_size _ rfl, rfl, rfl⟩ (raw.push _) (pi_one (tk := s1.toks) I2 _ (turn_itemsT _ hdt) ⟨.none, .none, ?_⟩ q)
    rw [← hsz]
    exact Heap.get?_push_size _ rfl
  show wpAny _ _ (callWith cpos (.builtin "dict.items") [.ref d] [] []) _ X.xe s1
  exact method_meetsIn F.slot_dict_items F.entry_dict_items rfl (PySem.evalArgs_none ⟨rfl, raw.typeIs, F.args_dict_items_1 _, _, DT.meetsItems (es := es) (ep := ep) hs, raw, fin⟩)
theorem walk_itemsT {d : Addr} {o : Obj} {kvs : List (List Key × V)} : Walk (ItIT d o kvs) kvs.length (fun H => H d = some (.frz o (.dT kvs)))
    (fun i H x H' => ∃ T q k v, kvs[i]? = some (k, v) ∧ H q = some (.tup (k.map kV)) ∧ x = .ref T ∧ H T = none ∧ H' = upd H T (.tup [.ref q, v])) :=
  ⟨fun _ _ hi q => ⟨q, hi⟩, fun _ q => ⟨q, Nat.le_refl _⟩, fun _ _ _ _ _ _ y => y⟩
end K35
set_option maxHeartbeats 4000000
/-! d.update(d2), dict(d) of int and text keys; sorted of a list of at most one item. -/
namespace K35
open PySem PySem.Spec PyProof.Rows L2
section
variable {X : Cx}
def rUpdate : V → List V → Hp → VK → Prop := fun x vs H Q => ∃ a b kvs more, x = .ref a ∧ vs = [.ref b] ∧ H a = some (.dK kvs) ∧ H b = some (.dK more) ∧ a ≠ b ∧ kvs.length + more.length ≤ sizeLine ∧ Q .non (upd H a (.dK (mergeK kvs more)))
theorem mt_update : MtR X "dict.update" rUpdate := by
  intro pins s σ H x vs v us Q I rx rv h
  obtain ⟨a, b, kvs, more, rfl, rfl, ha, hb, hne, hz, q⟩ := h
  cases rx
  obtain rfl : us = [.ref b] := by
    cases rv with
    | cons r1 rn =>
      cases rn
      cases r1
      rfl
  obtain ⟨z, hd, ws, rel, dd⟩ := dk_of I.hok ha
  obtain ⟨z2, hd2, ws2, rel2, dd2⟩ := dk_of I.hok hb
  refine call_meetsIn PySem.F.slot_dict_update dd.typeIs PySem.F.entry_dict_update (PySem.F.args_dict_update_2 _ _) (meets_dict_update (mixKind X.prog X.w) a b hne hd2)
    ⟨ws, ws2, dd, dd2, by rw [← rel.length, ← rel2.length]; exact hz, fun h' dd' _ hs => ?_⟩
  have he : ∃ q, h'.get? a = some q := let ⟨q, _, _, hq, _⟩ := dd'; ⟨q, hq⟩
  have hl : (mergeK kvs more).length ≤ sizeLine := Nat.le_trans (length_mergeK more kvs) hz
  exact ⟨.non, _, d_write I (by rw [ha]; exact True.intro) hs he (dk_new hl hd (KV.merge rel2 rel) dd'), rfl, q⟩
/-- dict(d) -/
theorem call_dictD : CallR X (.type "dict") (fun xs H Q => ∃ a kvs, xs = [.ref a] ∧ H a = some (.dK kvs) ∧ ∀ p, H p = none → Q (.ref p) (upd H p (.dK kvs))) := by
  intro pins s σ H xs us Q I r h
  obtain ⟨a, kvs, rfl, ha, q⟩ := h
  rw [Vals.ref1 r]
  exact d_copyOf I (.inl ha) fun p s' hp J => ⟨.ref p, _, J, rfl, q p hp⟩
/-- sorted(l), l of at most one item -/
theorem call_sorted1 : CallR X (.builtin "sorted") (fun xs H Q => ∃ a ys, xs = [.ref a] ∧ SqL X.K H a ys ∧ ys.length ≤ 1 ∧ ∀ p, H p = none → Q (.ref p) (upd H p (.lst ys))) := by
  intro pins s σ H vs us Q I r h
  obtain ⟨a, ys, rfl, hs, h1, q⟩ := h
  obtain ⟨its, rv, hl, hz⟩ := I.list hs
  rw [Vals.ref1 r]
  have hl2 : its.length ≤ 1 := by rw [← rv.length]; exact h1
  refine SrtO.sorted_ord (ltv := fun _ _ => false) ⟨fun _ _ z => (by cases z), fun _ _ _ _ _ => rfl⟩ hl.isList (by rw [← rv.length]; exact hz) (fun h2 => absurd h2 (by omega)) fun out _ h2 => ?_
  have e : out = its := by
    have p : out.Perm its := h2.perm
    cases its with
    | nil => exact p.eq_nil
    | cons v r =>
      cases r with
      | nil => exact List.perm_singleton.mp p
      | cons _ _ => exact absurd hl2 (by simp)
  subst e
  obtain ⟨ep, he'⟩ := PyProof.Rows.sortedAll_at s.heap out out.toArray
  exact ⟨.ref _, upd H (s.heap.objs.size + 1) (.lst ys), I.laid (t' := s.toks) (fun _ _ => PyProof.Rows.sortedAll_old) (Nat.le_succ _) ⟨hz, out, ep, rv, he'⟩, rfl, q _ (I.hok.fresh (Nat.le_succ _))⟩
end
end K35
set_option maxHeartbeats 4000000
/-! a != b by the class's own __eq__. -/
namespace K35
open PySem PySem.Spec PyProof.Rows L2
section
variable {prog : Program} {w : World} {A : Around} {E : Value → Shared → Prop} {s : Shared} {K : PySem.W.Frag} {x y C f : Addr} {ox oy : Obj} {od od' : Option Obj}
theorem ne_check {rest : List Value} {Q : Unit → Shared → Prop} (X : K.In s.heap) (I : PySem.W.InstAt s.heap x ox C od) (hsub : PySem.W.subIn K (.ref C) (.type "object") = some true) (ha : argsOk "object.__ne__" ⟨.ref x :: rest, []⟩) (hq : Q () s) :
    wpAny (model prog w) A (checkBuiltinCall "object.__ne__" ⟨.ref x :: rest, []⟩) Q E s := by
  simp only [checkBuiltinCall, F.cmpKind_ne, F.cmpSplit_ne]
  refine wpAny_bind ?_
  unfold isInstance
  refine wpAny_bind (I.type.here ((PySem.W.looks_subIn X hsub).here ?_))
  simp only [if_true, Bool.not_true, Bool.false_eq_true, if_false]
  first
    | (refine wpAny_pure ?_)
    | skip
  cases hsig : Manifest.signature? "object.__ne__" with
  | none => exact wpAny_pure hq
  | some sig =>
    simp only [argsOk, hsig] at ha
    have h2 : Bind.checkArgs "object.__ne__" sig ⟨.ref x :: rest, []⟩ = pure () := ha
    show wpAny _ A (Bind.checkArgs "object.__ne__" sig ⟨.ref x :: rest, []⟩) Q E _
    rw [h2]; exact wpAny_pure hq
theorem ne_entry (X : K.In s.heap) (I : PySem.W.InstAt s.heap x ox C od) (hs : PySem.W.findIn K (.ref C) "__eq__" = some (some (.ref f))) (hf : PySem.W.isFn K (.ref f) = true) (hu : A.units < cLine) {Q : PySem.Fin → Shared → Prop}
    (hcall : wpAny (model prog w) A (call (.ref f) [.ref x, .ref y]) (fun v s' => ∃ b, v = .bool b ∧ Q (.done (.ret (.bool (!b)))) s') E s) :
    wpAny (model prog w) A (Builtin.«object.__ne__» ⟨[.ref x, .ref y], []⟩) Q E s := by
  unfold Builtin.«object.__ne__»
  repeat (first
    | with_reducible refine wpAny_cRoomFor hu ?_
    | (refine wpAny_bind (m := callSpecialIfBound? (.ref x) (PySem.Str.ofString "__eq__") [.ref y])
        (PySem.W.ifBound_K X I hs hf (wpAny_mono hcall (fun r s' hr => by
          obtain ⟨b, rfl, hq⟩ := hr
          repeat (first | exact hq | exact wpAny_pure hq | exact wpAny_truthy_bool hq | (refine wpAny_bind (m := truthy (.bool _)) (wpAny_truthy_bool ?_)) | wp_step)) fun _ _ e => e)))
    | wp_step)
theorem ne_special (X : K.In s.heap) (I : PySem.W.InstAt s.heap x ox C od) (hn : PySem.W.findIn K (.ref C) "__ne__" = some (some (.builtin "object.__ne__"))) {Q : Option Value → Shared → Prop}
    (h : wpAny (model prog w) A (call (.builtin "object.__ne__") [.ref x, .ref y]) (fun v => Q (some v)) E s) : wpAny (model prog w) A (callSpecialIfBound? (.ref x) "__ne__" [.ref y]) Q E s := by
  simp only [callSpecialIfBound?, bindSpecialIfBound?]
  refine wpAny_holding (wpAny_bind (wpAny_bind (wpAny_bind (I.type.here ((PySem.W.looks_findIn X hn).here ?_)))))
  simp only [F.cmp_object.ne.bind]
  refine wpAny_bind (wpAny_askSetting (wpAny_ite ?_))
  have fin : wpAny (model prog w) A (call (.builtin "object.__ne__") ([.ref x] ++ [.ref y]) >>= fun v => pure (some v)) Q E s := wpAny_bind (wpAny_mono h (fun v s' h' => wpAny_pure h') fun _ _ h' => h')
  split
  · exact wpAny_bind (wpAny_pure (wpAny_pure fin))
  · exact wpAny_tryCatch (wpAny_bind (wpAny_pure (wpAny_pure fin)))
theorem ne_try (X : K.In s.heap) (I : PySem.W.InstAt s.heap x ox C od) (hn : PySem.W.findIn K (.ref C) "__ne__" = some (some (.builtin "object.__ne__"))) (hsub : PySem.W.subIn K (.ref C) (.type "object") = some true)
    (hs : PySem.W.findIn K (.ref C) "__eq__" = some (some (.ref f))) (hf : PySem.W.isFn K (.ref f) = true) (hu : A.units + 1 < cLine) {Q : Option Value → Shared → Prop}
    (hcall : wpAny (model prog w) A.in1 (call (.ref f) [.ref x, .ref y]) (fun v s' => ∃ b, v = .bool b ∧ Q (some (.bool (!b))) s') E s) :
    wpAny (model prog w) A (tryCompare (.ref x) "__ne__" (.ref y)) Q E s := by
  simp only [tryCompare]
  refine wpAny_bind (ne_special X I hn (wpAny_call (codeAny_call_builtin F.cmp_object.ne.plain F.cmpEntry_ne
    (ne_check X I hsub (F.cmpArgs_ne _ _) (ne_entry (A := A.in1) X I hs hf hu (wpAny_mono hcall (fun v s' hv => ?_) fun _ _ e => e))))))
  obtain ⟨b, rfl, hq⟩ := hv
  first | exact ⟨b, rfl, wpAny_pure hq⟩ | exact ⟨b, rfl, wpAny_pure (wpAny_pure hq)⟩ | exact ⟨b, rfl, hq⟩
theorem ne_rich (X : K.In s.heap) (I : PySem.W.InstAt s.heap x ox C od) (J : PySem.W.InstAt s.heap y oy C od') (hn : PySem.W.findIn K (.ref C) "__ne__" = some (some (.builtin "object.__ne__"))) (hsub : PySem.W.subIn K (.ref C) (.type "object") = some true)
    (hs : PySem.W.findIn K (.ref C) "__eq__" = some (some (.ref f))) (hf : PySem.W.isFn K (.ref f) = true) (hu : A.units + 1 < cLine) {Q : Value → Shared → Prop}
    (hcall : wpAny (model prog w) A.in1 (call (.ref f) [.ref x, .ref y]) (fun v s' => ∃ b, v = .bool b ∧ Q (.bool (!b)) s') E s) :
    wpAny (model prog w) A (richCompare .NotEq (.ref x) (.ref y)) Q E s := by
  unfold richCompare
  simp only [oneThing_ref]
  refine wpAny_holding ?_
  refine wpAny_bind (wpAny_cRoomFor (Nat.lt_of_succ_lt hu) ?_)
  rw [cmpInfo_NotEq]
  dsimp only
  refine wpAny_bind (I.type.here ?_)
  refine wpAny_bind (J.type.here ?_)
  rw [show (Value.ref C != Value.ref C) = false from by simp]
  simp only [Bool.false_eq_true, if_false]
  refine wpAny_bind (wpAny_pure ?_)
  simp only [Bool.false_eq_true, if_false]
  refine wpAny_bind (ne_try X I hn hsub hs hf hu (wpAny_mono hcall (fun v s' hv => ?_) fun _ _ e => e))
  obtain ⟨b, rfl, hq⟩ := hv
  first | exact ⟨b, rfl, wpAny_pure hq⟩ | exact ⟨b, rfl, wpAny_pure (wpAny_pure hq)⟩
end
/-- what of the class is needed for != -/
structure NeC (K : PySem.W.Frag) (C f : Addr) : Prop where
  ne : PySem.W.findIn K (.ref C) "__ne__" = some (some (.builtin "object.__ne__"))
  sub : PySem.W.subIn K (.ref C) (.type "object") = some true
  eq : PySem.W.findIn K (.ref C) "__eq__" = some (some (.ref f))
  fn : PySem.W.isFn K (.ref f) = true
def rNe (C : Addr) (sp : Sp) (E : XK) : R2 := fun x y H Q => ∃ a b dx dy fs gs, x = .ref a ∧ y = .ref b ∧ H a = some (.ins C dx fs) ∧ H b = some (.ins C dy gs) ∧ sp [.ref a, .ref b] H (fun v H' => ∃ c, v = .bl c ∧ Q (.bl (!c)) H') E
theorem op_neOwn {X : Cx} {CX : CXT} {C f : Addr} {fd : FuncData} {ps : List Str} {k : Nat} {sp : Sp} {E : XK} (N : NeC X.K C f) (F : FnOk X.prog X.w X.K X.mg X.base CX k f fd ps sp) (hr : Room (k + 1) X.A) (hb : Binds X.K fd ps []) (hx : Passes CX X E) :
    OpR X (compareOp .NotEq) (rNe C sp E) := by
  intro pins s σ H x y v u Q I rx ry hq
  obtain ⟨a, b, dx, dy, fs, gs, rfl, rfl, ha, hb', hsp⟩ := hq
  cases rx
  cases ry
  obtain ⟨mA, J, _⟩ := ins_get I.hok ha
  obtain ⟨mB, J', _⟩ := ins_get I.hok hb'
  obtain ⟨od, J, _⟩ := J.look
  obtain ⟨od', J', _⟩ := J'.look
  show wpAny (model X.prog X.w) X.A (richCompare .NotEq (.ref a) (.ref b)) (EP X pins σ Q) X.xe s
  refine ne_rich I.kIn J J' N.ne N.sub N.eq N.fn (hu_of hr) ?_
  have e0 : Env0 X.prog X.w X.K X.mg X.base X.A.in1 X.stack s H := by
    have e := I.env0
    exact ⟨e.frames, e.mod, e.bs, e.bsz, e.funs, e.frf, e.hok, e.bare⟩
  have hl := F.len _ _ _ _ hsp
  have r2 : Vals [V.ref a, V.ref b] [Value.ref a, Value.ref b] := .cons rfl (.cons rfl .nil)
  refine wpAny_call (codeAny_mono (F.run X.A.in1 X.stack s H ⟨[.ref a, .ref b], []⟩ [.ref a, .ref b] [.ref a, .ref b] _ E hr.in1 e0 (by
    have := hb s [.ref a, .ref b] I.kIn (by simpa using hl)
    simpa using this) r2 hsp) fun r s' hq => ?_)
  cases r with
  | error e => exact hx pins σ H s e s' I hq
  | ok fl =>
    cases fl with
    | ret w =>
      obtain ⟨z, H', I', rz, c, ez, q⟩ := I.after hq
      subst ez
      cases rz
      exact ⟨c, rfl, .bl (!c), H', I', rfl, q⟩
    | next => exact False.elim hq
    | brk => exact False.elim hq
    | cont => exact False.elim hq
end K35
set_option maxHeartbeats 4000000
/-! o.m(k = v, ..). -/
namespace K35
open PySem PySem.Spec PyProof.Rows L2
/-- a def without defaults, called by keywords -/
theorem kbn_none {K : PySem.W.Frag} {x qual : Str} {params : Arguments} {body : List Stmt} {scope : Scope} {f : Addr} {fd : FuncData} {ps : List Str} (F : FunD K x qual params body scope [] [] f fd) (n : Nat) (ks : List Str) (g : {α : Type} → List α → List α → List α)
    (hrel : ∀ {vs zs : List V} {us ws : List Value}, Vals vs us → Vals zs ws → Vals (g vs zs) (g us ws))
    (h : ∀ (kV doc pm : Value) (an : Option Addr) (cdv ct : Value) (us ws : List Value), us.length = n → ws.length = ks.length → bindArgs (PySem.W.fnOf x qual params body scope .none kV doc pm an cdv ct) ⟨us, ks.zip ws⟩ = pure (ps.zip (g us ws))) :
    KBn K fd ps n ks (fun us ws => g us ws) (fun vs zs => g vs zs) := by
  obtain ⟨oc, od, dV, kV, doc, pm, an, cdv, ct, osl, rfl, lk, hcd, hD, hK⟩ := F.ex
  rcases hD with ⟨_, rfl⟩ | ⟨e, _⟩
  · exact ⟨fun s us ws X l1 l2 => .of_eq (h kV doc pm an cdv ct us ws l1 l2), fun r1 r2 => hrel r1 r2⟩
  · exact absurd rfl e
def tMethK (C : Addr) (m : Str) (j : Nat) (sp : Sp) (gV : List V → List V → List V) (E : XK) (ta : TE) (tk : TA) : TE := fun σ H Q => ta σ H fun x H1 => ∃ a dx fs, x = .ref a ∧ H1 a = some (.ins C dx fs) ∧ fs.lookup m = none ∧ tk σ H1 fun zs H2 => zs.length = j ∧ sp (gV [.ref a] zs) H2 Q E
section
variable {X : Cx} {CX : CXT} {k : Nat} {f C : Addr} {fd : FuncData} {ps ks : List Str} {sp : Sp} {E : XK} {m : Str} {apos pos : Pos} {o : Expr} {kws : List Keyword} {ta : TE} {tk : TA} {g : List Value → List Value → List Value} {gV : List V → List V → List V}
theorem run_kw {pins : List (Addr × Obj)} {σ : L2.St} {H : Hp} {s : Shared} {Q : VK} {us ws : List Value} {vs zs : List V} {n : Nat} (F : FnOk X.prog X.w X.K X.mg X.base CX k f fd ps sp) (hr : Room k X.A) (hb : KBn X.K fd ps n ks g gV) (hx : Passes CX X E)
    (I : Inv X pins σ H s) (r : Vals vs us) (rz : Vals zs ws) (l1 : vs.length = n) (l2 : zs.length = ks.length) (h : sp (gV vs zs) H Q E) : wpAny (model X.prog X.w) X.A (call (.ref f) us (ks.zip ws)) (EP X pins σ Q) X.xe s := by
  have r2 := hb.rel r rz
  refine wpAny_call (codeAny_mono (F.run X.A X.stack s H ⟨us, ks.zip ws⟩ (g us ws) (gV vs zs) Q E hr I.env0 (hb.to s us ws I.kIn (r.length.symm.trans l1) (rz.length.symm.trans l2)) r2 h) fun r s' hq => ?_)
  cases r with
  | error e => exact hx pins σ H s e s' I hq
  | ok fl =>
    cases fl with
    | ret u => exact I.after hq
    | next => exact False.elim hq
    | brk => exact False.elim hq
    | cont => exact False.elim hq
theorem pe_methK0 {pl : Sem Bool} (he : PE X o ta) (c : Cls X.K C) (hm : Meth X.K C m f) (F : FnOk X.prog X.w X.K X.mg X.base CX k f fd ps sp) (hr : Room k X.A) (hb : KBn X.K fd ps 1 ks g gV) (hx : Passes CX X E) (hkw : PK X kws tk)
    (hall : (backToKw pos (keywordEach kws X.env)).all (·.1.isSome) = true := by rfl) (hks : (backToKw pos (keywordEach kws X.env)).filterMap (·.1) = ks := by rfl)
    (hpl : ((backTo pos (starEach [] X.env)).any (·.1) || (backToKw pos (keywordEach kws X.env)).any (·.1.isNone)) = false := by rfl)
    (ht : eval (.Call (.Attribute o m apos) [] kws pos) X.env = (do
      let ov ← eval o X.env
      standAt apos.atName
      let (f, first) ← holding [ov] (getMethod ov m pl)
      callWith pos f first (backTo pos (starEach [] X.env)) (backToKw pos (keywordEach kws X.env))) := by rfl) :
    PE X (.Call (.Attribute o m apos) [] kws pos) (tMethK C m ks.length sp gV E ta tk) := by
  refine ⟨fun pins s σ H Q I h => ?_⟩
  refine PySem.W.methodCall_KW (pl := pl) (thn (he.run pins s σ H _ I h) fun u s1 ⟨x, H1, I1, rx, a, dx, fs, ex, ea, l, q⟩ => ?_) ht
  subst ex
  obtain rfl : u = Value.ref a := rx
  refine getmeth_ok I1 ea c hm l ?_
  refine PySem.W.callWith_KW0 (first := [.ref a]) (h₀ := X.base) I.ok.mod.kin hm.kp hall ?_ hpl
  refine thn (hkw.run pos pins s1 σ H1 _ I1 q) fun ws s2 ⟨zs, H2, I2, rz, l2, q2⟩ => ⟨I2.kIn, ?_⟩
  rw [hks]
  exact run_kw (us := [.ref a]) (vs := [.ref a]) F hr hb hx I2 (.cons rfl .nil) rz rfl l2 q2
end
end K35
set_option maxHeartbeats 4000000
/-! {(a, b): v}: a dict of one pair whose key is a tuple. -/
namespace K35
open PySem PySem.Spec PyProof.Rows L2
def tDispT1 (tk tv : TE) : TE := fun σ H Q => ∀ p, H p = none → tPairs [(tk, tv)] σ (upd H p (.dT [])) fun ps H2 => H2 p = some (.dT []) ∧ ∃ b ks y, ps = [(.ref b, y)] ∧ H2 b = some (.tup (ks.map kV)) ∧ Q (.ref p) (upd H2 p (.dT [(ks, y)]))
theorem pe_dispT1 {X : Cx} {pos : Pos} {k v : Expr} {tk tv : TE} (hu : X.A.units + 1 < cLine) (hk : PE X k tk) (hv : PE X v tv) : PE X (.Dict [some k] [v] pos) (tDispT1 tk tv) := by
  refine ⟨fun pins s σ H Q I q => ?_⟩
  have hn := I.hok.fresh (Nat.le_refl s.heap.objs.size)
  have I1 : Inv X pins σ (upd H s.heap.objs.size (.dT [])) { s with heap := s.heap.push { cls := .type "dict", data := .dict #[] }, toks := s.toks } :=
    I.laid (a := s.heap.objs.size) (o := .dT []) (t' := s.toks) (fun _ _ q => Heap.get?_push_of_some _ q) (Nat.le_refl _) (dt_empty s.heap I.big)
  rw [arm_eval_Dict, show (evalEachOpt [some k] X.env).zip ((evalEach [v] X.env).map fun v => do let x ← v; standAt pos; pure x) = (pairTrees [some k] [v] X.env pos).map (fun p => (some p.1, p.2)) from rfl, dictDisplay_pairs _ (by intro z; cases z) (by show (1 : Nat) < 17; decide)]
  refine wpAny_bind (wpAny_standAt (wpAny_bind (wpAny_subDictH (knd := tupleKind (mixKind X.prog X.w)) (show X.A.units < cLine by omega) (by show (1 : Nat) ≤ 15; decide) ?_)))
  refine thn ((pps_cons hk hv pps_nil).run pins _ σ _ _ I1 (q _ hn)) fun vs s1 hh => ?_
  obtain ⟨ps, H2, I2, rel, e, b, ks, y, rfl, hb, q2⟩ := hh
  cases rel with
  | cons r1 rn =>
    cases rn
    rename_i kv
    obtain ⟨kk, vv⟩ := kv
    obtain ⟨r2, r3⟩ := r1
    obtain rfl : kk = Value.ref b := r2
    obtain ⟨z, hd, xs, rel2, dd⟩ := dt_of I2.hok e
    obtain rfl : xs = [] := by cases rel2 <;> rfl
    refine ⟨[(ks, b, vv)], ⟨rfl, rfl, key_of I2.hok hb, True.intro⟩, dd, fun h' tk dd' hs => ?_⟩
    obtain ⟨o, es, ep, hq, h2, h3, h4, _, h5⟩ := dd'
    have bd : b ≠ s.heap.objs.size := ne_of hb e (by intro z; cases z)
    refine wpAny_pure ⟨.ref s.heap.objs.size, _, d_write (ob := .dT [(ks, y)]) (t' := tk) I2 (by rw [e]; exact True.intro) hs ⟨o, hq⟩ ⟨by show 1 ≤ sizeLine; decide, hd, [(ks, b, vv)], .cons ⟨rfl, ?_, r3⟩ .nil, o, es, ep, hq, h2, h3, h4, h5⟩, rfl, q2⟩
    rw [upd_ne bd]
    exact hb
end K35
set_option maxHeartbeats 4000000
/-! The four exceptions that are raised. -/
namespace K35
open PySem PySem.Spec PyProof.Rows L2
theorem xd_Refused : XD Pg "Refused.__init__" s_Refused_init ((defBody s_Refused_init).getD 0 (.Pass ⟨0, 0, 0, 0⟩)) [.Assign [.Attribute (.Name "self" ⟨13, 8, 13, 12⟩) "at" ⟨13, 8, 13, 15⟩] (.Name "at" ⟨13, 18, 13, 20⟩) ⟨13, 8, 13, 20⟩] ["at"] :=
  ⟨rfl, ⟨_, _, _, _, _, _, _, _, rfl, fun L f cda cc => ⟨_, rfl⟩⟩, rfl, ⟨rfl, rfl, rfl, rfl⟩, by decide +kernel, by decide +kernel, rfl, rfl, by decide +kernel⟩
theorem xd_NoState : XD Pg "NoState.__init__" s_NoState_init ((defBody s_NoState_init).getD 0 (.Pass ⟨0, 0, 0, 0⟩)) [.Assign [.Attribute (.Name "self" ⟨32, 8, 32, 12⟩) "state" ⟨32, 8, 32, 18⟩] (.Name "state" ⟨32, 21, 32, 26⟩) ⟨32, 8, 32, 26⟩] ["state"] :=
  ⟨rfl, ⟨_, _, _, _, _, _, _, _, rfl, fun L f cda cc => ⟨_, rfl⟩⟩, rfl, ⟨rfl, rfl, rfl, rfl⟩, by decide +kernel, by decide +kernel, rfl, rfl, by decide +kernel⟩
theorem xd_NoDeed : XD Pg "NoDeed.__init__" s_NoDeed_init ((defBody s_NoDeed_init).getD 0 (.Pass ⟨0, 0, 0, 0⟩)) [.Assign [.Attribute (.Name "self" ⟨37, 8, 37, 12⟩) "deed" ⟨37, 8, 37, 17⟩] (.Name "deed" ⟨37, 20, 37, 24⟩) ⟨37, 8, 37, 24⟩] ["deed"] :=
  ⟨rfl, ⟨_, _, _, _, _, _, _, _, rfl, fun L f cda cc => ⟨_, rfl⟩⟩, rfl, ⟨rfl, rfl, rfl, rfl⟩, by decide +kernel, by decide +kernel, rfl, rfl, by decide +kernel⟩
theorem xd_Uncommuting : XD Pg "Uncommuting.__init__" s_Uncommuting_init ((defBody s_Uncommuting_init).getD 0 (.Pass ⟨0, 0, 0, 0⟩))
    [.Assign [.Attribute (.Name "self" ⟨25, 8, 25, 12⟩) "state" ⟨25, 8, 25, 18⟩] (.Name "state" ⟨25, 21, 25, 26⟩) ⟨25, 8, 25, 26⟩, .Assign [.Attribute (.Name "self" ⟨26, 8, 26, 12⟩) "one" ⟨26, 8, 26, 16⟩] (.Name "one" ⟨26, 19, 26, 22⟩) ⟨26, 8, 26, 22⟩,
      .Assign [.Attribute (.Name "self" ⟨27, 8, 27, 12⟩) "other" ⟨27, 8, 27, 18⟩] (.Name "other" ⟨27, 21, 27, 26⟩) ⟨27, 8, 27, 26⟩] ["state", "one", "other"] :=
  ⟨rfl, ⟨_, _, _, _, _, _, _, _, rfl, fun L f cda cc => ⟨_, rfl⟩⟩, rfl, ⟨rfl, rfl, rfl, rfl⟩, by decide +kernel, by decide +kernel, rfl, rfl, by decide +kernel⟩
section
variable {w : World} {K : PySem.W.Frag} {mg : Str → Option Value} {C fI : Addr} {B newId BI initId : String} {bmT : List Value}
theorem does_Refused (T : XC K C B newId BI initId bmT) (J : XI Pg K C fI "Refused.__init__" s_Refused_init) (hsup : mg "super" = none) (hno : PySem.W.findIn K (.ref C) "at" = some none) :
    InitDoes Pg w K mg C fI 1 fun us y => if y = "at" then us.head? else none :=
  does_one T J hsup xd_Refused (fun kV doc pm an cda ct cc u v => rfl) (by decide +kernel) (by decide +kernel) hno fun L fa cda cc => rfl
theorem does_NoState (T : XC K C B newId BI initId bmT) (J : XI Pg K C fI "NoState.__init__" s_NoState_init) (hsup : mg "super" = none) (hno : PySem.W.findIn K (.ref C) "state" = some none) :
    InitDoes Pg w K mg C fI 1 fun us y => if y = "state" then us.head? else none :=
  does_one T J hsup xd_NoState (fun kV doc pm an cda ct cc u v => rfl) (by decide +kernel) (by decide +kernel) hno fun L fa cda cc => rfl
theorem does_NoDeed (T : XC K C B newId BI initId bmT) (J : XI Pg K C fI "NoDeed.__init__" s_NoDeed_init) (hsup : mg "super" = none) (hno : PySem.W.findIn K (.ref C) "deed" = some none) :
    InitDoes Pg w K mg C fI 1 fun us y => if y = "deed" then us.head? else none :=
  does_one T J hsup xd_NoDeed (fun kV doc pm an cda ct cc u v => rfl) (by decide +kernel) (by decide +kernel) hno fun L fa cda cc => rfl
theorem does_Uncommuting (T : XC K C B newId BI initId bmT) (J : XI Pg K C fI "Uncommuting.__init__" s_Uncommuting_init) (hsup : mg "super" = none) (h1 : PySem.W.findIn K (.ref C) "state" = some none) (h2 : PySem.W.findIn K (.ref C) "one" = some none) (h3 : PySem.W.findIn K (.ref C) "other" = some none) :
    InitDoes Pg w K mg C fI 3 fun us y => if y = "other" then us[2]? else if y = "one" then us[1]? else if y = "state" then us[0]? else none :=
  does_three T J hsup xd_Uncommuting (fun kV doc pm an cda ct cc u v1 v2 v3 => rfl) (by decide +kernel) (by decide +kernel) (by decide +kernel) (by decide +kernel) (by decide +kernel) (by decide +kernel) (by decide +kernel) (by decide +kernel) (by decide +kernel) h1 h2 h3 (fun L fa cda cc => rfl) (fun L fa cda cc => rfl) fun L fa cda cc => rfl
end
/-! ### raise in short: RX tells of one class that C(e, ..) makes it, with its fields -/
structure RX (X : Cx) (x : Str) (C : Addr) (fs : List Str) : Prop where
  mkx : ∀ {e : Expr} {es : List Expr} {ta : TA} {p pos : Pos} {k : Nat}, Room (k + 1) X.A → Gl X x → PA X (e :: es) ta → starEach (e :: es) X.env = (false, eval e X.env) :: starEach es X.env → (backTo pos (starEach es X.env)).any (·.1) = false → PMk X (.Call (.Name x p) (e :: es) [] pos) (tX C fs ta)
section
variable {w : World} {K : PySem.W.Frag} {mg : Str → Option Value} {C fI : Addr} {B newId BI initId : String} {bmT : List Value}
/-- of a class: it is raised so anywhere -/
def RxAt (P : Program) (w : World) (K : PySem.W.Frag) (mg : Str → Option Value) (x : Str) (C : Addr) (fs : List Str) : Prop := ∀ X : Cx, X.prog = P → X.w = w → X.K = K → X.mg = mg → RX X x C fs
theorem rx_Refused (T : XC K C B newId BI initId bmT) (J : XI Pg K C fI "Refused.__init__" s_Refused_init) (hsup : mg "super" = none) (hno : PySem.W.findIn K (.ref C) "at" = some none) (hm : mg "Refused" = some (.ref C)) : RxAt Pg w K mg "Refused" C ["at"] := by
  intro X hP hw hK hmg
  subst hw hK hmg
  exact ⟨fun hr hg ha he hpl => pmk_x T J.find J.typ (hP.symm ▸ does_Refused T J hsup hno) rel_one (by decide) hr hg hm ha (by decide +kernel) he hpl⟩
theorem rx_NoState (T : XC K C B newId BI initId bmT) (J : XI Pg K C fI "NoState.__init__" s_NoState_init) (hsup : mg "super" = none) (hno : PySem.W.findIn K (.ref C) "state" = some none) (hm : mg "NoState" = some (.ref C)) : RxAt Pg w K mg "NoState" C ["state"] := by
  intro X hP hw hK hmg
  subst hw hK hmg
  exact ⟨fun hr hg ha he hpl => pmk_x T J.find J.typ (hP.symm ▸ does_NoState T J hsup hno) rel_one (by decide) hr hg hm ha (by decide +kernel) he hpl⟩
theorem rx_NoDeed (T : XC K C B newId BI initId bmT) (J : XI Pg K C fI "NoDeed.__init__" s_NoDeed_init) (hsup : mg "super" = none) (hno : PySem.W.findIn K (.ref C) "deed" = some none) (hm : mg "NoDeed" = some (.ref C)) : RxAt Pg w K mg "NoDeed" C ["deed"] := by
  intro X hP hw hK hmg
  subst hw hK hmg
  exact ⟨fun hr hg ha he hpl => pmk_x T J.find J.typ (hP.symm ▸ does_NoDeed T J hsup hno) rel_one (by decide) hr hg hm ha (by decide +kernel) he hpl⟩
theorem rx_Uncommuting (T : XC K C B newId BI initId bmT) (J : XI Pg K C fI "Uncommuting.__init__" s_Uncommuting_init) (hsup : mg "super" = none) (h1 : PySem.W.findIn K (.ref C) "state" = some none) (h2 : PySem.W.findIn K (.ref C) "one" = some none) (h3 : PySem.W.findIn K (.ref C) "other" = some none)
    (hm : mg "Uncommuting" = some (.ref C)) : RxAt Pg w K mg "Uncommuting" C ["state", "one", "other"] := by
  intro X hP hw hK hmg
  subst hw hK hmg
  exact ⟨fun hr hg ha he hpl => pmk_x T J.find J.typ (hP.symm ▸ does_Uncommuting T J hsup h1 h2 h3) (rel_three (by decide +kernel) (by decide +kernel) (by decide +kernel)) (by decide) hr hg hm ha (by decide +kernel) he hpl⟩
end
end K35
/-! Plain: tables of numbers, what is reached in them. -/
namespace K35
/-- the state behind the deed d -/
def stp (T : List (List Nat)) (d s : Nat) : Nat := ((T[d]?.getD [])[s]?).getD 0
/-- behind a row of deeds -/
def run (T : List (List Nat)) (u : List Nat) (s : Nat) : Nat := u.foldl (fun s d => stp T d s) s
def Closed (T : List (List Nat)) (S : Nat → Prop) : Prop := ∀ s, S s → ∀ d, d < T.length → S (stp T d s)
theorem stp_of {T : List (List Nat)} {d s z : Nat} {r : List Nat} (h : T[d]? = some r) (h2 : r[s]? = some z) : stp T d s = z := by
  unfold stp
  rw [h, Option.getD_some, h2, Option.getD_some]
theorem run_snoc (T : List (List Nat)) (u : List Nat) (d s : Nat) : run T (u ++ [d]) s = stp T d (run T u s) := by
  unfold run
  rw [List.foldl_append] <;> rfl
theorem run_nil (T : List (List Nat)) (s : Nat) : run T [] s = s := rfl
theorem run_cons (T : List (List Nat)) (d : Nat) (u : List Nat) (s : Nat) : run T (d :: u) s = run T u (stp T d s) := rfl
theorem run_append (T : List (List Nat)) (u v : List Nat) (s : Nat) : run T (u ++ v) s = run T v (run T u s) := by
  unfold run
  rw [List.foldl_append]
theorem Closed.run {T : List (List Nat)} {S : Nat → Prop} (h : Closed T S) : ∀ {u : List Nat} {s : Nat}, S s → (∀ d ∈ u, d < T.length) → S (run T u s)
  | [], _, hs, _ => hs
  | d :: u, s, hs, hu => Closed.run h (u := u) (h s hs d (hu d (List.mem_cons_self ..))) fun e he => hu e (List.mem_cons_of_mem _ he)
/-- distinct numbers below n are at most n -/
theorem nodup_le : ∀ (n : Nat) (l : List Nat), l.Nodup → (∀ x ∈ l, x < n) → l.length ≤ n
  | 0, [], _, _ => Nat.le_refl _
  | 0, x :: _, _, h => absurd (h x (List.mem_cons_self ..)) (Nat.not_lt_zero _)
  | n + 1, l, hd, h => by
    have a := nodup_le n (l.filter fun x => decide (x ≠ n)) (hd.filter _) fun x hx => by
      have hx2 := List.mem_filter.mp hx
      have h1 := h x hx2.1
      have h2 : x ≠ n := of_decide_eq_true hx2.2
      omega
    have b : l.length ≤ (l.filter fun x => decide (x ≠ n)).length + 1 := by
      have e : ∀ l : List Nat, l.Nodup → l.length ≤ (l.filter fun x => decide (x ≠ n)).length + 1 := by
        intro l
        induction l with
        | nil => intro _; exact Nat.zero_le _
        | cons y r ih =>
          intro hn
          have hn2 := List.nodup_cons.mp hn
          by_cases hy : y = n
          · have : (y :: r).filter (fun x => decide (x ≠ n)) = r := by
              rw [List.filter_cons, if_neg (by simp [hy])]
              exact List.filter_eq_self.mpr fun z hz => decide_eq_true fun q => hn2.1 (by rw [hy, ← q]; exact hz)
            rw [this]
            exact Nat.le_refl _
          · rw [List.filter_cons, if_pos (by simpa using hy)]
            have := ih hn2.2
            simp only [List.length_cons]
            omega
      exact e l hd
    omega
end K35
set_option maxHeartbeats 4000000
/-! Plain: machines made of counters; names; tables. -/
namespace K35
def stepS (S : List (List Nat)) (p : Nat × Nat) : List (List Nat) := S.flatMap fun s => (List.range (p.1 + p.2)).map fun v => s ++ [v]
def prodS (ps : List (Nat × Nat)) : List (List Nat) := ps.foldl stepS [[]]
def nrm (p : Nat × Nat) (v : Nat) : Nat := if v < p.1 then v else p.1 + (v - p.1) % p.2
def addS : List (Nat × Nat) → List Nat → List Nat → List Nat
  | p :: ps, x :: s, y :: d => nrm p (x + y) :: addS ps s d
  | _, _, _ => []
def sizes6 : List (List (Nat × Nat)) := [[(0, 2)], [(1, 1)], [(2, 1)], [(0, 3)], [(1, 2)], [(0, 2), (1, 1)]]
def sizes12 : List (List (Nat × Nat)) := sizes6 ++ [[(2, 1), (1, 1)], [(0, 2), (0, 2)], [(3, 1)], [(2, 2)], [(1, 1), (1, 1)], [(0, 4)]]
/-- what holds of each of the twelve -/
def szGood (ps : List (Nat × Nat)) : Bool :=
  decide (1 ≤ ps.length) && decide (ps.length ≤ 2) && decide (2 ≤ (prodS ps).length) && decide ((prodS ps).length ≤ 6) && ps.all (fun p => decide (1 ≤ p.2) && decide (p.1 + p.2 ≤ 4)) &&
  (prodS ps).all (fun s => decide (s.length = ps.length) && s.all (fun x => decide (x ≤ 4))) && (prodS ps).all (fun s => (prodS ps).all fun d => decide (addS ps s d ∈ prodS ps)) &&
  decide (prodS ps).Nodup && (List.range 3).all (fun i => decide ((prodS (ps.take i)).length ≤ 6) && (prodS (ps.take i)).all fun s => decide (s.length ≤ 2)) && (prodS ps).all fun s => (prodS ps).all fun d => (prodS ps).all fun e => decide (addS ps (addS ps s d) e = addS ps (addS ps s e) d)
theorem sz_all : sizes12.all szGood = true := by decide +kernel
structure Sz (ps : List (Nat × Nat)) : Prop where
  l1 : 1 ≤ ps.length
  l2 : ps.length ≤ 2
  n2 : 2 ≤ (prodS ps).length
  n6 : (prodS ps).length ≤ 6
  p : ∀ p ∈ ps, 1 ≤ p.2 ∧ p.1 + p.2 ≤ 4
  len : ∀ s ∈ prodS ps, s.length = ps.length
  x4 : ∀ s ∈ prodS ps, ∀ x ∈ s, x ≤ 4
  cl : ∀ s ∈ prodS ps, ∀ d ∈ prodS ps, addS ps s d ∈ prodS ps
  nd : (prodS ps).Nodup
  pre : ∀ i ∈ List.range 3, (prodS (ps.take i)).length ≤ 6 ∧ ∀ s ∈ prodS (ps.take i), s.length ≤ 2
  com : ∀ s ∈ prodS ps, ∀ d ∈ prodS ps, ∀ e ∈ prodS ps, addS ps (addS ps s d) e = addS ps (addS ps s e) d
theorem sz_of {ps : List (Nat × Nat)} (h : ps ∈ sizes12) : Sz ps := by
  have g := List.all_eq_true.mp sz_all ps h
  unfold szGood at g
  simp only [Bool.and_eq_true, decide_eq_true_eq, List.all_eq_true] at g
  obtain ⟨⟨⟨⟨⟨⟨⟨⟨⟨a, b⟩, c⟩, d⟩, e⟩, f⟩, g⟩, j⟩, k⟩, i⟩ := g
  exact ⟨a, b, c, d, e, fun s hs => (f s hs).1, fun s hs => (f s hs).2, g, j, k, i⟩
theorem prodS_snoc (ps : List (Nat × Nat)) (p : Nat × Nat) : prodS (ps ++ [p]) = stepS (prodS ps) p := by
  unfold prodS
  rw [List.foldl_append] <;> rfl
theorem prodS_take {ps : List (Nat × Nat)} {i : Nat} {p : Nat × Nat} (h : ps[i]? = some p) : prodS (ps.take (i + 1)) = stepS (prodS (ps.take i)) p := by
  rw [List.take_add_one, h]
  exact prodS_snoc _ _
theorem mem_stepS {S : List (List Nat)} {p : Nat × Nat} {s : List Nat} {v : Nat} (hs : s ∈ S) (hv : v < p.1 + p.2) : s ++ [v] ∈ stepS S p := List.mem_flatMap.mpr ⟨s, hs, List.mem_map.mpr ⟨v, List.mem_range.mpr hv, rfl⟩⟩
theorem stepS_take {S : List (List Nat)} {p : Nat × Nat} {i : Nat} {s : List Nat} (h : S[i]? = some s) : stepS (S.take (i + 1)) p = stepS (S.take i) p ++ (List.range (p.1 + p.2)).map fun v => s ++ [v] := by
  unfold stepS
  rw [List.take_add_one, h, List.flatMap_append]
  show _ ++ List.flatMap _ [s] = _
  rw [List.flatMap_cons, List.flatMap_nil, List.append_nil]
theorem stepS_length (p : Nat × Nat) : ∀ S : List (List Nat), (stepS S p).length = S.length * (p.1 + p.2)
  | [] => by simp [stepS]
  | s :: S => by
    have h := stepS_length p S
    unfold stepS at h ⊢
    rw [List.flatMap_cons, List.length_append, h, List.length_map, List.length_range, List.length_cons, Nat.succ_mul]
    omega
theorem addS_length : ∀ {ps : List (Nat × Nat)} {s d : List Nat}, s.length = ps.length → d.length = ps.length → (addS ps s d).length = ps.length
  | [], _, _, _, _ => by simp [addS]
  | p :: ps, x :: s, y :: d, h1, h2 => by
    show (addS ps s d).length + 1 = ps.length + 1
    rw [addS_length (Nat.succ.inj h1) (Nat.succ.inj h2)]
  | p :: ps, [], _, h, _ => absurd h (by simp)
  | p :: ps, _ :: _, [], _, h => absurd h (by simp)
theorem addS_get : ∀ {ps : List (Nat × Nat)} {s d : List Nat} {i : Nat} {p : Nat × Nat} {x y : Nat}, ps[i]? = some p → s[i]? = some x → d[i]? = some y → (addS ps s d)[i]? = some (nrm p (x + y))
  | [], _, _, i, _, _, _, h, _, _ => by simp at h
  | p :: ps, [], _, i, _, _, _, _, h, _ => by simp at h
  | p :: ps, x :: s, [], i, _, _, _, _, _, h => by simp at h
  | p :: ps, x :: s, y :: d, 0, _, _, _, h1, h2, h3 => by
    cases h1
    cases h2
    cases h3
    rfl
  | p :: ps, x :: s, y :: d, i + 1, _, _, _, h1, h2, h3 => addS_get (ps := ps) (s := s) (d := d) (i := i) h1 h2 h3
theorem nrm_lt {p : Nat × Nat} (h : 1 ≤ p.2) (v : Nat) : nrm p v < p.1 + p.2 := by
  unfold nrm
  split
  · omega
  · have := Nat.mod_lt (v - p.1) (show 0 < p.2 from h)
    omega
/-- the first place of an item -/
theorem first_at {α : Type} [DecidableEq α] {v : α} : ∀ {S : List α}, v ∈ S → ∃ j : Nat, S[j]? = some v ∧ ∀ (m : Nat) (z : α), m < j → S[m]? = some z → z ≠ v
  | [], h => absurd h (by simp)
  | s :: S, h => by
    by_cases e : s = v
    · subst e
      exact ⟨0, rfl, fun m z hm => absurd hm (Nat.not_lt_zero _)⟩
    · obtain ⟨j, h1, h2⟩ := first_at (v := v) (S := S) ((List.mem_cons.mp h).resolve_left fun z => e z.symm)
      refine ⟨j + 1, h1, fun m z hm hz => ?_⟩
      cases m with
      | zero =>
        cases hz
        exact e
      | succ m => exact h2 m z (Nat.lt_of_succ_lt_succ hm) hz
/-- one row of a table: names and what the deed adds -/
structure RowOk (ps : List (Nat × Nat)) (S : List (List Nat)) (names : List Nat) (d : List Nat) (m : Nat) (row : List Nat) : Prop where
  len : row.length = names.length
  lt : ∀ x ∈ row, x < names.length
  at_ : ∀ j : Nat, j < m → ∀ (s : List Nat) (nm : Nat), S[j]? = some s → names[j]? = some nm → ∃ i x : Nat, S[i]? = some (addS ps s d) ∧ names[i]? = some x ∧ row[nm]? = some x
theorem RowOk.zero {ps : List (Nat × Nat)} {S : List (List Nat)} {names d : List Nat} (h : 0 < names.length) : RowOk ps S names d 0 (List.replicate names.length 0) :=
  ⟨List.length_replicate, fun x hx => by rw [(List.mem_replicate.mp hx).2]; exact h, fun j hj => absurd hj (Nat.not_lt_zero _)⟩
theorem RowOk.step {ps : List (Nat × Nat)} {S : List (List Nat)} {names d row : List Nat} {m nm x i : Nat} {s : List Nat} (h : RowOk ps S names d m row) (nd : names.Nodup) (hlt : ∀ x ∈ names, x < names.length)
    (hs : S[m]? = some s) (hn : names[m]? = some nm) (hi : S[i]? = some (addS ps s d)) (hx : names[i]? = some x) : RowOk ps S names d (m + 1) (row.set nm x) := by
  have hnm := hlt nm (List.mem_of_getElem? hn)
  refine ⟨by rw [List.length_set, h.len], fun y hy => ?_, fun j hj s' nm' e1 e2 => ?_⟩
  · rcases List.mem_or_eq_of_mem_set hy with q | q
    · exact h.lt y q
    · rw [q]
      exact hlt x (List.mem_of_getElem? hx)
  · rcases Nat.lt_succ_iff_lt_or_eq.mp hj with q | q
    · obtain ⟨i', x', a, b, c⟩ := h.at_ j q s' nm' e1 e2
      refine ⟨i', x', a, b, ?_⟩
      rw [List.getElem?_set_ne, c]
      intro z
      subst z
      have := (List.getElem?_inj (List.getElem?_eq_some_iff.mp hn).1 nd).mp (hn.trans e2.symm)
      omega
    · subst q
      obtain rfl : s = s' := Option.some.inj (hs.symm.trans e1)
      obtain rfl : nm = nm' := Option.some.inj (hn.symm.trans e2)
      exact ⟨i, x, hi, hx, by rw [List.getElem?_set_self (by rw [h.len]; exact hnm)]⟩
/-- THE LAW OF THE MACHINE: its deeds commute on its states -/
theorem rows_commute {ps : List (Nat × Nat)} (Z : Sz ps) {names : List Nat} (pm : names.Perm (List.range (prodS ps).length)) {T : List (List Nat)}
    (hT : ∀ r ∈ T, ∃ d ∈ prodS ps, RowOk ps (prodS ps) names d (prodS ps).length r) {a b s : Nat} (ha : a < T.length) (hb : b < T.length) (hs : s < (prodS ps).length) : stp T a (stp T b s) = stp T b (stp T a s) := by
  have hl : names.length = (prodS ps).length := by rw [pm.length_eq, List.length_range]
  obtain ⟨j, hj⟩ := List.mem_iff_getElem?.mp (pm.mem_iff.mpr (List.mem_range.mpr hs))
  have hjl := (List.getElem?_eq_some_iff.mp hj).1
  obtain ⟨v, hv⟩ : ∃ v, (prodS ps)[j]? = some v := ⟨_, List.getElem?_eq_getElem (by omega)⟩
  have hvm := List.mem_of_getElem? hv
  have ga : T[a]? = some T[a] := List.getElem?_eq_getElem ha
  have gb : T[b]? = some T[b] := List.getElem?_eq_getElem hb
  obtain ⟨d, hd, rd⟩ := hT T[a] (List.getElem_mem _)
  obtain ⟨e, he, re⟩ := hT T[b] (List.getElem_mem _)
  obtain ⟨i1, x1, p1, q1, r1⟩ := rd.at_ j (by omega) v s hv hj
  obtain ⟨i2, x2, p2, q2, r2⟩ := re.at_ j (by omega) v s hv hj
  have h1 := (List.getElem?_eq_some_iff.mp p1).1
  have h2 := (List.getElem?_eq_some_iff.mp p2).1
  obtain ⟨i3, x3, p3, q3, r3⟩ := re.at_ i1 h1 _ x1 p1 q1
  obtain ⟨i4, x4, p4, q4, r4⟩ := rd.at_ i2 h2 _ x2 p2 q2
  rw [stp_of ga r1, stp_of gb r2, stp_of gb r3, stp_of ga r4]
  have e34 := (p4.trans (congrArg some (Z.com v hvm e he d hd))).trans p3.symm
  have i34 : i4 = i3 := (List.getElem?_inj (List.getElem?_eq_some_iff.mp p4).1 Z.nd).mp e34
  rw [i34] at q4
  exact Option.some.inj (q4.symm.trans q3)
end K35
set_option maxHeartbeats 4000000
/-! Base: what is built in, what a def of this text is for its callers; the small defs. -/
namespace K35
open PySem PySem.Spec PyProof.Rows L2
abbrev Fd (K : PySem.W.Frag) (x qual : Str) (st : Stmt) (f : Addr) (fd : FuncData) : Prop := FunD K x qual (defArgs st) (defBody st) (defScope st) [] [] f fd
structure Cal (P : Program) (w : World) (K : PySem.W.Frag) (mg : Str → Option Value) (base : Heap) (k : Nat) (x : Str) (ps : List Str) (sp : Sp) : Prop where
  ex : ∃ (f : Addr) (fd : FuncData), mg x = some (.ref f) ∧ PySem.W.keepIn K (.ref f) = true ∧ Binds K fd ps [] ∧ FnOk P w K mg base (L2.CX P w) k f fd ps sp
section
variable {X : Cx} {k : Nat} {x : Str} {ps : List Str} {sp : Sp} {E : XK} {p pos : Pos} {e : Expr} {es : List Expr} {t : TA}
theorem pe_cal (C : Cal X.prog X.w X.K X.mg X.base k x ps sp) (hr : Room k X.A) (hg : Gl X x) (hx : Passes (L2.CX X.prog X.w) X E) (ha : PA X (e :: es) t)
    (hdb : (x == ("__debug__" : Str)) = false := by decide) (he : starEach (e :: es) X.env = (false, eval e X.env) :: starEach es X.env := by rfl) (hpl : (backTo pos (starEach es X.env)).any (·.1) = false := by rfl) :
    PE X (.Call (.Name x p) (e :: es) [] pos) (tCall sp [] E t) := by
  obtain ⟨f, fd, hm, hk, hb, F⟩ := C.ex
  exact pe_call F hr hg hm hk hb .nil hx ha hdb he hpl
end
/-- raise C(e, ..), C one of the text's exceptions -/
theorem ps_raiseX {X : Cx} {W : WX} {k : Nat} {x : Str} {C : Addr} {fs : List Str} {e : Expr} {es : List Expr} {ta : TA} {p pos pos2 : Pos} (hc : X.calm = true) (R : RxAt X.prog X.w X.K X.mg x C fs) (hr : Room (k + 1) X.A) (hg : Gl X x) (tk : Takes X W) (ha : PA X (e :: es) ta)
    (he : starEach (e :: es) X.env = (false, eval e X.env) :: starEach es X.env := by rfl) (hpl : (backTo pos (starEach es X.env)).any (·.1) = false := by rfl) :
    PS X (.Raise (some (.Call (.Name x p) (e :: es) [] pos)) none pos2) (fun _ σ H => tX C fs ta σ H fun cls d H' => W cls d σ H') :=
  ps_raise hc tk ((R X rfl rfl rfl rfl).mkx hr hg ha he hpl)
/-- the built-in names stand as they are -/
structure Bu (mg : Str → Option Value) : Prop where
  isinstance : mg "isinstance" = none
  int : mg "int" = none
  bool : mg "bool" = none
  list : mg "list" = none
  tuple : mg "tuple" = none
  len : mg "len" = none
  all : mg "all" = none
  enumerate : mg "enumerate" = none
  sorted : mg "sorted" = none
  abs : mg "abs" = none
  range : mg "range" = none
  max : mg "max" = none
  min : mg "min" = none
  repr : mg "repr" = none
  dict : mg "dict" = none
  deeds : ∃ t, mg "MOST_DEEDS" = some (.int 8 t)
  states : ∃ t, mg "MOST_STATES" = some (.int 12 t)
/-- None, a bool, an int, a text, an empty tuple -/
inductive Sc (K : PySem.W.Frag) (H : Hp) : V → Prop where
  | non : Sc K H .non
  | bl (b : Bool) : Sc K H (.bl b)
  | int (i : Int) : Sc K H (.int i)
  | str (z : Str) : Sc K H (.str z)
  | tup (p : Addr) (h : H p = some (.tup [])) : Sc K H (.ref p)
def tyS : V → String
  | .non => "NoneType"
  | .bl _ => "bool"
  | .int _ => "int"
  | .str _ => "str"
  | _ => "tuple"
theorem Sc.ty {K : PySem.W.Frag} {H : Hp} {v : V} (h : Sc K H v) : TyX K H v (.type (tyS v)) := by
  cases h with
  | non => exact .base .non
  | bl b => exact .base (.bl b)
  | int i => exact .base (.int i)
  | str z => exact .base (.str z)
  | tup p h => exact .base (.tup h)
def isI : V → Bool
  | .int _ => true
  | _ => false
def isB : V → Bool
  | .bl _ => true
  | _ => false
/-- isinstance(v, int) as Python sees it -/
def isInt : V → Bool
  | .int _ => true
  | .bl _ => true
  | _ => false
theorem kit_int {K : PySem.W.Frag} {H : Hp} {v : V} (h : Sc K H v) : PySem.W.kitOne K (.type (tyS v)) (.type "int") = some (isInt v) := by
  cases h with
  | non => exact kit_ty (show kitB "NoneType" "int" = some false by decide +kernel)
  | bl b => exact kit_ty (show kitB "bool" "int" = some true by decide +kernel)
  | int i => exact kit_ty (show kitB "int" "int" = some true by decide +kernel)
  | str z => exact kit_ty (show kitB "str" "int" = some false by decide +kernel)
  | tup p h => exact kit_ty (show kitB "tuple" "int" = some false by decide +kernel)
theorem kit_bool {K : PySem.W.Frag} {H : Hp} {v : V} (h : Sc K H v) : PySem.W.kitOne K (.type (tyS v)) (.type "bool") = some (isB v) := by
  cases h with
  | non => exact kit_ty (show kitB "NoneType" "bool" = some false by decide +kernel)
  | bl b => exact kit_ty (show kitB "bool" "bool" = some true by decide +kernel)
  | int i => exact kit_ty (show kitB "int" "bool" = some false by decide +kernel)
  | str z => exact kit_ty (show kitB "str" "bool" = some false by decide +kernel)
  | tup p h => exact kit_ty (show kitB "tuple" "bool" = some false by decide +kernel)
section
variable {w : World} {K : PySem.W.Frag} {mg : Str → Option Value} {base : Heap}
/-! ### is_integer -/
def spIsInteger (K : PySem.W.Frag) : Sp := fun vs H Q _ => ∃ v, vs = [v] ∧ Sc K H v ∧ Q (.bl (isI v)) H
theorem sc_is_integer : FnScope ["value"] ["value"] (defScope s_is_integer) := ⟨rfl, rfl, rfl, by decide +kernel, rfl, by decide +kernel, by decide +kernel⟩
theorem ok_is_integer {f : Addr} {fd : FuncData} (F : Fd K "is_integer" "is_integer" s_is_integer f fd) (B : Bu mg) : FnOk Pg w K mg base (L2.CX Pg w) 1 f fd ["value"] (spIsInteger K) := by
  refine F.ok sc_is_integer (fun vs H Q E ⟨v, e, _⟩ => by rw [e] <;> rfl) fun cdv A outer s H vs Q E hr ⟨v, ev, hs, q⟩ => ?_
  subst ev
  refine ⟨_, pss_one (ps_ret (pe_and (pe_callB call_isi (by rfl) B.isinstance boot_isinstance (pa_cons (pv 0) (pa_cons (pe_bltn (v := .ty "int") (by rfl) B.int (by decide +kernel) rfl) pa_nil)))
    (pe_one (pe_not (pe_callB call_isi (by rfl) B.isinstance boot_isinstance (pa_cons (pv 0) (pa_cons (pe_bltn (v := .ty "bool") (by rfl) B.bool (by decide +kernel) rfl) pa_nil))))))), ?_⟩
  refine ⟨_, rfl, _, _, _, _, _, rfl, .ty "int", hs.ty, kit_int hs, ?_⟩
  refine ⟨_, rfl, ?_⟩
  cases hs with
  | int i => exact ⟨_, rfl, _, _, _, _, _, rfl, .ty "bool", (Sc.int (K := K) (H := H) i).ty, kit_bool (K := K) (H := H) (.int i), _, rfl, q⟩
  | bl b => exact ⟨_, rfl, _, _, _, _, _, rfl, .ty "bool", (Sc.bl (K := K) (H := H) b).ty, kit_bool (K := K) (H := H) (.bl b), _, rfl, q⟩
  | non => exact q
  | str z => exact q
  | tup p h => exact q
/-! ### is_number, is_below -/
def isN : V → Bool
  | .int i => decide (0 ≤ i)
  | _ => false
def isBel (n : Int) : V → Bool
  | .int i => decide (0 ≤ i) && decide (i < n)
  | _ => false
def spIsNumber (K : PySem.W.Frag) : Sp := fun vs H Q _ => ∃ v, vs = [v] ∧ Sc K H v ∧ Q (.bl (isN v)) H
def spIsBelow (K : PySem.W.Frag) : Sp := fun vs H Q _ => ∃ v n, vs = [v, .int n] ∧ Sc K H v ∧ Q (.bl (isBel n v)) H
theorem sc_is_number : FnScope ["value"] ["value"] (defScope s_is_number) := ⟨rfl, rfl, rfl, by decide +kernel, rfl, by decide +kernel, by decide +kernel⟩
theorem sc_is_below : FnScope ["value", "most"] ["value", "most"] (defScope s_is_below) := ⟨rfl, rfl, rfl, by decide +kernel, rfl, by decide +kernel, by decide +kernel⟩
theorem ok_is_number {f : Addr} {fd : FuncData} (F : Fd K "is_number" "is_number" s_is_number f fd) (C : Cal Pg w K mg base 1 "is_integer" ["value"] (spIsInteger K)) : FnOk Pg w K mg base (L2.CX Pg w) 2 f fd ["value"] (spIsNumber K) := by
  refine F.ok sc_is_number (fun vs H Q E ⟨v, e, _⟩ => by rw [e] <;> rfl) fun cdv A outer s H vs Q E hr ⟨v, ev, hs, q⟩ => ?_
  subst ev
  refine ⟨_, pss_one (ps_ret (pe_and (pe_cal C hr (by rfl) passL (pa_cons (pv 0) pa_nil)) (pe_one (pe_cmp (pc_ge (pv 0) pe_int) rfl)))), ?_⟩
  refine ⟨_, rfl, v, rfl, hs, _, rfl, ?_⟩
  cases hs with
  | int i => exact ⟨_, rfl, _, _, rfl, rfl, q⟩
  | bl b => exact q
  | non => exact q
  | str z => exact q
  | tup p h => exact q
theorem ok_is_below {f : Addr} {fd : FuncData} (F : Fd K "is_below" "is_below" s_is_below f fd) (C : Cal Pg w K mg base 2 "is_number" ["value"] (spIsNumber K)) : FnOk Pg w K mg base (L2.CX Pg w) 3 f fd ["value", "most"] (spIsBelow K) := by
  refine F.ok sc_is_below (fun vs H Q E ⟨v, n, e, _⟩ => by rw [e] <;> rfl) fun cdv A outer s H vs Q E hr ⟨v, n, ev, hs, q⟩ => ?_
  subst ev
  refine ⟨_, pss_one (ps_ret (pe_and (pe_cal C hr (by rfl) passL (pa_cons (pv 0) pa_nil)) (pe_one (pe_cmp (pc_lt (pv 0) (pv 1)) rfl)))), ?_⟩
  refine ⟨_, rfl, v, rfl, hs, _, rfl, ?_⟩
  cases hs with
  | int i =>
    show if decide (0 ≤ i) = true then _ else _
    by_cases h0 : 0 ≤ i
    · rw [decide_eq_true h0]
      refine iteT ⟨_, rfl, _, rfl, _, _, rfl, rfl, ?_⟩
      have e : isBel n (.int i) = decide (i < n) := by
        show (decide (0 ≤ i) && decide (i < n)) = _
        rw [decide_eq_true h0, Bool.true_and]
      rw [e] at q
      exact q
    · rw [decide_eq_false h0]
      refine iteF ?_
      have e : isBel n (.int i) = false := by
        show (decide (0 ≤ i) && decide (i < n)) = _
        rw [decide_eq_false h0, Bool.false_and]
      rw [e] at q
      exact q
  | bl b => exact q
  | non => exact q
  | str z => exact q
  | tup p h => exact q
/-! ### is_sequence: of a list or a tuple -/
def IsSq (K : PySem.W.Frag) (H : Hp) (a : Addr) (xs : List V) : Prop := (H a = some (.lst xs)) ∨ H a = some (.tup xs)
def spIsSequence : Sp := fun vs H Q _ => ∃ a xs, vs = [.ref a] ∧ (H a = some (.lst xs) ∨ H a = some (.tup xs)) ∧ ∀ H', Same H H' → Q (.bl true) H'
theorem sc_is_sequence : FnScope ["value"] ["value"] (defScope s_is_sequence) := ⟨rfl, rfl, rfl, by decide +kernel, rfl, by decide +kernel, by decide +kernel⟩
theorem ok_is_sequence {f : Addr} {fd : FuncData} (F : Fd K "is_sequence" "is_sequence" s_is_sequence f fd) (B : Bu mg) : FnOk Pg w K mg base (L2.CX Pg w) 1 f fd ["value"] spIsSequence := by
  refine F.ok sc_is_sequence (fun vs H Q E ⟨a, xs, e, _⟩ => by rw [e] <;> rfl) fun cdv A outer s H vs Q E hr ⟨a, xs, ev, hs, q⟩ => ?_
  subst ev
  refine ⟨_, pss_one (ps_ret (pe_callB call_isiT (by rfl) B.isinstance boot_isinstance (pa_cons (pv 0) (pa_cons (pe_tup (pa_cons (pe_bltn (v := .ty "list") (by rfl) B.list (by decide +kernel) rfl) (pa_cons (pe_bltn (v := .ty "tuple") (by rfl) B.tuple (by decide +kernel) rfl) pa_nil))) pa_nil)))), ?_⟩
  refine ⟨_, rfl, (by show 2 ≤ sizeLine; decide), fun tp htp => ?_⟩
  have sm : Same H (upd H tp (.tup [.ty "list", .ty "tuple"])) := fun b o e => (upd_ne (ne_of_none e htp)).trans e
  rcases hs with h | h
  · exact ⟨_, _, _, _, _, true, rfl, upd_same, .cons (.ty "list") (.cons (.ty "tuple") .nil), .base (.lst (sm _ _ h)), kitAny_cons (kit_ty (show kitB "list" "list" = some true by decide +kernel)) (fun z => by cases z) (fun _ => rfl), q _ sm⟩
  · exact ⟨_, _, _, _, _, true, rfl, upd_same, .cons (.ty "list") (.cons (.ty "tuple") .nil), .base (.tup (sm _ _ h)), kitAny_cons (kit_ty (show kitB "tuple" "list" = some false by decide +kernel)) (fun _ => kitAny_cons (kit_ty (show kitB "tuple" "tuple" = some true by decide +kernel)) (fun z => by cases z) fun _ => rfl) (fun z => by cases z), q _ sm⟩
/-! ### machines as objects -/
/-- what of the class Machine is needed -/
structure MF (K : PySem.W.Frag) (CM : Addr) : Prop where
  cl : Cls K CM
  tables : PySem.W.findIn K (.ref CM) "tables" = some none
  deeds : PySem.W.findIn K (.ref CM) "deeds" = some none
  states : PySem.W.findIn K (.ref CM) "states" = some none
def mfs (t : Addr) (d n : Nat) : List (Str × V) := [("tables", .ref t), ("deeds", .int d), ("states", .int n)]
def MachA (CM : Addr) (H : Hp) (m t dx : Addr) (d n : Nat) : Prop := H m = some (.ins CM dx (mfs t d n))
/-! ### need_state, need_deed -/
def spNeedState (K : PySem.W.Frag) (CM CS : Addr) : Sp := fun vs H Q E => ∃ m t dx d n v, vs = [.ref m, v] ∧ MachA CM H m t dx d n ∧ Sc K H v ∧ (isBel n v = true → Q v H) ∧ (isBel n v = false → ∀ x, H x = none → E (.ref CS) (some x) (upd H x (.xd [("state", v)])))
def spNeedDeed (K : PySem.W.Frag) (CM CD : Addr) : Sp := fun vs H Q E => ∃ m t dx d n v, vs = [.ref m, v] ∧ MachA CM H m t dx d n ∧ Sc K H v ∧ (isBel d v = true → Q v H) ∧ (isBel d v = false → ∀ x, H x = none → E (.ref CD) (some x) (upd H x (.xd [("deed", v)])))
theorem sc_need_state : FnScope ["machine", "state"] ["machine", "state"] (defScope s_need_state) := ⟨rfl, rfl, rfl, by decide +kernel, rfl, by decide +kernel, by decide +kernel⟩
theorem sc_need_deed : FnScope ["machine", "deed"] ["machine", "deed"] (defScope s_need_deed) := ⟨rfl, rfl, rfl, by decide +kernel, rfl, by decide +kernel, by decide +kernel⟩
theorem ok_need_state {CM CS : Addr} {f : Addr} {fd : FuncData} (F : Fd K "need_state" "need_state" s_need_state f fd) (M : MF K CM) (C : Cal Pg w K mg base 3 "is_below" ["value", "most"] (spIsBelow K)) (R : RxAt Pg w K mg "NoState" CS ["state"]) :
    FnOk Pg w K mg base (L2.CX Pg w) 4 f fd ["machine", "state"] (spNeedState K CM CS) := by
  refine F.ok sc_need_state (fun vs H Q E ⟨m, t, dx, d, n, v, e, _⟩ => by rw [e] <;> rfl) fun cdv A outer s H vs Q E hr ⟨m, t, dx, d, n, v, ev, hm, hs, q1, q2⟩ => ?_
  subst ev
  refine ⟨_, pss_cons (ps_if (pt_not (pt_val (pe_cal C hr (by rfl) passL (pa_cons (pv 1) (pa_cons (pe_fld (pv 0) rfl) pa_nil))))) (pss_one (ps_raiseX rfl R hr (by rfl) (takes_of rfl rfl rfl rfl) (pa_cons (pv 1) pa_nil))) pss_nil) (pss_one (ps_ret (pv 1))), ?_⟩
  refine ⟨_, rfl, _, rfl, _, _, dx, _, _, rfl, hm, M.cl, M.states, rfl, v, n, rfl, hs, _, rfl, ?_⟩
  cases hb : isBel n v with
  | true => exact iteF ⟨_, rfl, q1 hb⟩
  | false => exact iteT ⟨_, rfl, rfl, fun x hx => q2 hb x hx⟩
theorem ok_need_deed {CM CD : Addr} {f : Addr} {fd : FuncData} (F : Fd K "need_deed" "need_deed" s_need_deed f fd) (M : MF K CM) (C : Cal Pg w K mg base 3 "is_below" ["value", "most"] (spIsBelow K)) (R : RxAt Pg w K mg "NoDeed" CD ["deed"]) :
    FnOk Pg w K mg base (L2.CX Pg w) 4 f fd ["machine", "deed"] (spNeedDeed K CM CD) := by
  refine F.ok sc_need_deed (fun vs H Q E ⟨m, t, dx, d, n, v, e, _⟩ => by rw [e] <;> rfl) fun cdv A outer s H vs Q E hr ⟨m, t, dx, d, n, v, ev, hm, hs, q1, q2⟩ => ?_
  subst ev
  refine ⟨_, pss_cons (ps_if (pt_not (pt_val (pe_cal C hr (by rfl) passL (pa_cons (pv 1) (pa_cons (pe_fld (pv 0) rfl) pa_nil))))) (pss_one (ps_raiseX rfl R hr (by rfl) (takes_of rfl rfl rfl rfl) (pa_cons (pv 1) pa_nil))) pss_nil) (pss_one (ps_ret (pv 1))), ?_⟩
  refine ⟨_, rfl, _, rfl, _, _, dx, _, _, rfl, hm, M.cl, M.deeds, rfl, v, d, rfl, hs, _, rfl, ?_⟩
  cases hb : isBel d v with
  | true => exact iteF ⟨_, rfl, q1 hb⟩
  | false => exact iteT ⟨_, rfl, rfl, fun x hx => q2 hb x hx⟩
end
end K35
set_option maxHeartbeats 4000000
/-! Tables: is_table, check_tables, Machine. -/
namespace K35
open PySem PySem.Spec PyProof.Rows L2
abbrev vi (n : Nat) : V := .int (n : Int)
abbrev iv (l : List Nat) : List V := l.map vi
structure TabOk (T : List (List Nat)) (n : Nat) : Prop where
  d1 : 1 ≤ T.length
  d8 : T.length ≤ 8
  n1 : 1 ≤ n
  n12 : n ≤ 12
  len : ∀ r ∈ T, r.length = n
  lt : ∀ r ∈ T, ∀ x ∈ r, x < n
def RowsAt (H : Hp) (as : List Addr) (T : List (List Nat)) : Prop := as.length = T.length ∧ ∀ (i : Nat) (a : Addr) (r : List Nat), as[i]? = some a → T[i]? = some r → H a = some (.tup (iv r))
theorem RowsAt.same {H H' : Hp} {as : List Addr} {T : List (List Nat)} (h : RowsAt H as T) (s : ∀ b xs, H b = some (.tup xs) → H' b = some (.tup xs)) : RowsAt H' as T := ⟨h.1, fun i a r e1 e2 => s _ _ (h.2 i a r e1 e2)⟩
theorem RowsAt.get {H : Hp} {as : List Addr} {T : List (List Nat)} (h : RowsAt H as T) {i : Nat} (hi : i < T.length) : ∃ a r, as[i]? = some a ∧ T[i]? = some r ∧ H a = some (.tup (iv r)) := by
  have h1 : i < as.length := by rw [h.1]; exact hi
  exact ⟨as[i], T[i], List.getElem?_eq_getElem h1, List.getElem?_eq_getElem hi, h.2 i _ _ (List.getElem?_eq_getElem h1) (List.getElem?_eq_getElem hi)⟩
theorem line_of {n : Nat} (h : n ≤ 1000) : n ≤ sizeLine := Nat.le_of_lt (small1000 h)
/-- all that stood stands, but at m -/
def SameBut (m : Addr) (H H' : Hp) : Prop := ∀ b o, b ≠ m → H b = some o → H' b = some o
theorem Same.new {H : Hp} {p : Addr} {o : HO} (h : H p = none) : Same H (upd H p o) := fun b u e => (upd_ne (ne_of_none e h)).trans e
theorem yesT {σ : L2.St} {H : Hp} {Q : Bool → Hp → Prop} (h : Q true H) : tYes σ H Q := h
/-- THE RULE for a def that lets nothing out -/
theorem okN {w : World} {K : PySem.W.Frag} {mg : Str → Option Value} {base : Heap} {x qual : Str} {st : Stmt} {f : Addr} {fd : FuncData} {N ps : List Str} {k : Nat} {sp : Sp} (F : Fd K x qual st f fd) (S : FnScope N ps (defScope st)) (len : ∀ vs H Q E, sp vs H Q E → vs.length = ps.length)
    (hbody : ∀ (cdv : Value) (A : Around) (outer : List Env) (s : Shared) (H : Hp) (vs : List V) (Q : VK) (E : XK), Room k (A.deeper (envOfC qual (defScope st) s.heap.objs.size f cdv)) → sp vs H Q E →
      ∃ t, PSs (cxOf (L2.CX Pg w) Pg w K mg base N qual (defScope st) f cdv A outer s H E).nox (defBody st) t ∧ t { nx := fun _ H' => Q .non H', rt := Q } (start N vs) H) : FnOk Pg w K mg base (L2.CX Pg w) (k + 1) f fd ps sp :=
  F.ok S len fun cdv A outer s H vs Q E hr hsp => let ⟨t, h1, h2⟩ := hbody cdv A outer s H vs Q E hr hsp; ⟨t, h1.nox, h2⟩
theorem iteD {p : Prop} [Decidable p] {A B : Prop} (h : p) (a : A) : if decide p = true then A else B := by
  rw [decide_eq_true h]
  exact iteT a
theorem iteDn {p : Prop} [Decidable p] {A B : Prop} (h : ¬ p) (b : B) : if decide p = true then A else B := by
  rw [decide_eq_false h]
  exact iteF b
theorem at0 {xs : List V} {v : V} (h : xs[0]? = some v) : atI xs 0 = some v := at_of (j := 0) rfl h
theorem at1 {xs : List V} {v : V} (h : xs[1]? = some v) : atI xs 1 = some v := at_of (j := 1) rfl h
section
variable {w : World} {K : PySem.W.Frag} {mg : Str → Option Value} {base : Heap}
/-! ### is_table -/
def spIsTable : Sp := fun vs H Q _ => ∃ (a : Addr) (n : Nat) (r : List Nat), vs = [.ref a, vi n] ∧ H a = some (.tup (iv r)) ∧ r.length = n ∧ n ≤ 1000 ∧ (∀ x ∈ r, x < n) ∧ ∀ H', Same H H' → Q (.bl true) H'
abbrev N_is_table : List Str := ["value", "states", "state"]
theorem sc_is_table : FnScope N_is_table ["value", "states"] (defScope s_is_table) := ⟨rfl, rfl, rfl, by decide +kernel, rfl, by decide +kernel, by decide +kernel⟩
theorem ok_is_table {f : Addr} {fd : FuncData} (F : Fd K "is_table" "is_table" s_is_table f fd) (B : Bu mg) (C_is_sequence : Cal Pg w K mg base 1 "is_sequence" ["value"] spIsSequence) (C_is_below : Cal Pg w K mg base 3 "is_below" ["value", "most"] (spIsBelow K)) :
    FnOk Pg w K mg base (L2.CX Pg w) 4 f fd ["value", "states"] spIsTable := by
  refine F.ok sc_is_table (fun vs H Q E ⟨a, n, r, e, _⟩ => by rw [e] <;> rfl) fun cdv A outer s H vs Q E hr ⟨a, n, r, ev, ha, hl, hz, hlt, q⟩ => ?_
  subst ev
  refine ⟨_, (pss_one (ps_ret (pe_and (pe_cal C_is_sequence (hr.mono (by decide)) (by rfl) passL (pa_cons (pv 0) pa_nil)) (pe_and (pe_cmpR op_eq (pe_callB call_len_seq (by rfl) B.len (by decide +kernel) (pa_cons (pv 0) pa_nil)) (pv 1) (nomark _)) (pe_one (pe_callB (cr_all rfl) (by rfl) B.all (by decide +kernel) (pa_cons (pe_lc (own := [("state", 2)]) (tt := tYes) rfl sc_is_table.nd (pi_tup (pv 0)) (blkOk_by (own := [("state", 2)]) (N := N_is_table) (sc := defScope s_is_table) (by decide +kernel)) (fun _ _ _ _ _ => (pg_name (i := 2) sc_is_table.nd rfl (Or.inl rfl))) (fun _ _ _ _ _ => pts_nil) (fun _ _ _ _ _ => (pe_cal C_is_below hr (by rfl) passL (pa_cons (pv 2) (pa_cons (pv 1) pa_nil))))) pa_nil))))))), ?_⟩
  refine ⟨_, rfl, a, _, rfl, .inr ha, fun H1 s1 => ?_⟩
  refine ⟨_, rfl, ?_⟩
  refine ⟨_, rfl, _, _, rfl, .inr (SqT.of (s1 _ _ ha)), _, rfl, rfl, ?_⟩
  have e1 : decide (V.int ((iv r).length : Nat) = vi n) = true := decide_eq_true (by rw [List.length_map, hl])
  refine ⟨_, rfl, ?_⟩
  rw [e1]
  refine iteT ?_
  refine ⟨_, rfl, a, rfl, ⟨_, SqT.of (s1 _ _ ha)⟩, fun D hD => ?_⟩
  refine lc_tup (K := K) (a := a) (xs := iv r) (fun i H2 => ∃ H3, Same H H3 ∧ H3 D = none ∧ H2 = upd H3 D (.lst ((List.replicate i true).map V.bl))) ⟨H1, s1, hD, rfl⟩ (fun i H2 hi ⟨H3, s3, n3, e⟩ => ?_) (fun i x H2 hx ⟨H3, s3, n3, e⟩ => ?_) fun H2 ⟨H3, s3, n3, e⟩ => ?_
  · rw [e]
    exact SqT.of ((Same.new n3) _ _ (s3 _ _ ha))
  · obtain ⟨k, hk, rfl⟩ : ∃ k, r[i]? = some k ∧ x = vi k := by
      rw [List.getElem?_map] at hx
      cases e : r[i]? with
      | none =>
        rw [e] at hx
        cases hx
      | some z =>
        rw [e] at hx
        exact ⟨z, rfl, (Option.some.inj hx).symm⟩
    have hkn : k < n := hlt k (List.mem_of_getElem? hk)
    have hil : i < 1000 := by
      have := (List.getElem?_eq_some_iff.mp hk).1
      omega
    refine ⟨rfl, ?_⟩
    refine yesT (iteT ?_)
    refine ⟨_, rfl, _, rfl, _, _, rfl, .int _, ?_⟩
    have e2 : isBel (n : Int) (vi k) = true := by
      show (decide ((0 : Int) ≤ k) && decide ((k : Int) < n)) = true
      rw [decide_eq_true (by omega), decide_eq_true (by omega)] <;> rfl
    rw [e2]
    refine ⟨_, by rw [e]; exact upd_same, by rw [List.length_map, List.length_replicate]; exact small1000 (Nat.le_of_lt hil), H3, s3, n3, ?_⟩
    rw [e, upd_upd, List.replicate_succ', List.map_append] <;> rfl
  · refine ⟨D, _, rfl, SqL.of (by rw [e]; exact upd_same), ?_⟩
    have e3 : (List.replicate (iv r).length true).all id = true := by simp
    rw [e3, e]
    exact q _ (s3.trans (Same.new n3))
/-! ### check_tables -/
def rTupT (K : PySem.W.Frag) : List V → Hp → VK → Prop := fun xs H Q => ∃ a ys, xs = [V.ref a] ∧ SqT K H a ys ∧ Q (V.ref a) H
def spCheck : Sp := fun vs H Q _ => ∃ (a : Addr) (as : List Addr) (T : List (List Nat)) (n : Nat), vs = [.ref a] ∧ H a = some (.lst (as.map V.ref)) ∧ RowsAt H as T ∧ TabOk T n ∧
  ∀ H' t, Same H H' → H t = none → H' t = some (.tup (as.map V.ref)) → Q (.ref t) H'
abbrev N_check_tables : List Str := ["value", "states", "at", "table"]
theorem sc_check_tables : FnScope N_check_tables ["value"] (defScope s_check_tables) := ⟨rfl, rfl, rfl, by decide +kernel, rfl, by decide +kernel, by decide +kernel⟩
theorem ok_check_tables {f : Addr} {fd : FuncData} (F : Fd K "check_tables" "check_tables" s_check_tables f fd) (B : Bu mg) (C_is_sequence : Cal Pg w K mg base 1 "is_sequence" ["value"] spIsSequence) (C_is_table : Cal Pg w K mg base 4 "is_table" ["value", "states"] spIsTable) :
    FnOk Pg w K mg base (L2.CX Pg w) 5 f fd ["value"] spCheck := by
  obtain ⟨tk1, hMD⟩ := B.deeds
  obtain ⟨tk2, hMS⟩ := B.states
  refine okN F sc_check_tables (fun vs H Q E ⟨a, as, T, n, e, _⟩ => by rw [e] <;> rfl) fun cdv A outer s H vs Q E hr ⟨a, as, T, n, ev, ha, hR, hT, q⟩ => ?_
  subst ev
  have hr1 := hr.mono (by decide : 1 ≤ 4)
  refine ⟨_, (pss_cons (ps_if (PW.pt (pw_or (pt_not (pt_val (pe_cal C_is_sequence hr1 (by rfl) passL (pa_cons (pv 0) pa_nil)))) (pw_or1 (pt_not (pt_chain op_le op_le pe_int (pe_callB call_len_seq (by rfl) B.len (by decide +kernel) (pa_cons (pv 0) pa_nil)) (pe_glob (v := .int 8) (by rfl) hMD ⟨_, rfl⟩)))))) (pss_one ps_never) pss_nil)
  (pss_cons (ps_set (i := 1) sc_check_tables.nd rfl (Or.inl rfl) (pe_ifExp (pt_val (pe_cal C_is_sequence hr1 (by rfl) passL (pa_cons (pe_ix ix_list (pv 0) pe_int (fun _ _ => rfl)) pa_nil))) (pe_callB call_len_seq (by rfl) B.len (by decide +kernel) (pa_cons (pe_ix ix_list (pv 0) pe_int (fun _ _ => rfl)) pa_nil)) pe_int))
  (pss_cons (ps_for PassesOwn.never rfl (pi_enum (by rfl) B.enumerate (pa_cons (pv 0) pa_nil)) (pg_tup rfl (pgs_cons (pg_name (i := 2) sc_check_tables.nd rfl (Or.inl rfl)) (pgs_cons (pg_name (i := 3) sc_check_tables.nd rfl (Or.inl rfl)) pgs_nil)))
   (pss_one (ps_if (PW.pt (pw_or (pt_not (pt_chain op_le op_le pe_int (pv 1) (pe_glob (v := .int 12) (by rfl) hMS ⟨_, rfl⟩))) (pw_or1 (pt_not (pt_val (pe_cal C_is_table hr (by rfl) passL (pa_cons (pv 3) (pa_cons (pv 1) pa_nil)))))))) (pss_one ps_never) pss_nil)))
  (pss_one (ps_ret (pe_callTy (T := "tuple") call_tuple_of (by rfl) B.tuple (by decide +kernel) (pa_cons (pe_lc (own := [("table", 3)]) (tt := tYes) rfl sc_check_tables.nd (pi_list (pv 0)) (blkOk_by (own := [("table", 3)]) (N := N_check_tables) (sc := defScope s_check_tables) (by decide +kernel)) (fun _ _ _ _ _ => (pg_name (i := 3) sc_check_tables.nd rfl (Or.inl rfl))) (fun _ _ _ _ _ => pts_nil) (fun _ _ _ _ _ => (pe_callTy (T := "tuple") (r := rTupT K) call_tupleT (by rfl) B.tuple (by decide +kernel) (pa_cons (pv 3) pa_nil)))) pa_nil))))))), ?_⟩
  have hT8 := hT.d8
  have hlen : as.length = T.length := hR.1
  obtain ⟨p0, r0, e0, f0, g0⟩ := hR.get (i := 0) (by have := hT.d1; omega)
  have hr0 : r0.length = n := hT.len _ (List.mem_of_getElem? f0)
  have sqv : ∀ {H' : Hp}, Same H H' → SqL K H' a (as.map V.ref) := fun e => SqL.of (e _ _ ha)
  have len1 : ((as.map V.ref).length : Int) = (T.length : Int) := by rw [List.length_map, hlen]
  -- the first test
  refine ⟨_, rfl, a, _, rfl, .inl ha, fun H1 s1 => ?_⟩
  refine ⟨_, rfl, ?_⟩
  refine iteF ?_
  refine ⟨_, rfl, _, _, rfl, .inl (sqv s1), _, _, rfl, rfl, _, rfl, iteD (by rw [len1]; have := hT.d1; omega) ?_⟩
  refine ⟨_, _, rfl, rfl, _, rfl, ?_⟩
  rw [decide_eq_true (show ((as.map V.ref).length : Int) ≤ 8 by rw [len1]; omega)]
  refine iteF ?_
  -- the number of states
  have a0 : (as.map V.ref)[0]? = some (.ref p0) := by rw [List.getElem?_map, e0] <;> rfl
  refine ⟨_, rfl, _, _, _, _, rfl, rfl, sqv s1, at0 a0, p0, _, rfl, .inr (s1 _ _ g0), fun H2 s2 => ?_⟩
  have s12 := s1.trans s2
  refine ⟨_, rfl, iteT ?_⟩
  refine ⟨_, rfl, _, _, _, _, rfl, rfl, sqv s12, at0 a0, _, _, rfl, .inr (SqT.of (s12 _ _ g0)), ?_⟩
  -- each table
  have len0 : (((iv r0).length : Nat) : Int) = (n : Int) := by rw [List.length_map, hr0]
  rw [len0]
  refine ⟨_, rfl, a, _, rfl, sqv s12, for_it (walk_enum (xs := as.map V.ref)) (fun i σ H' => ∃ o1 o2, σ = [some (.ref a), some (vi n), o1, o2] ∧ Same H H') ⟨none, none, rfl, s12⟩ (fun i σ H' _ ⟨_, _, _, s'⟩ => sqv s') ?_ ?_⟩
  · rintro i x σ H' H'' hi ⟨o1, o2, rfl, s'⟩ ⟨tp, y1, y2, rfl, ntp, rfl, ey1, ey2⟩
    obtain rfl : V.int (i : Nat) = y1 := Option.some.inj ey1
    have hi2 : i < T.length := by rw [List.length_map, hlen] at hi; exact hi
    obtain ⟨p, r, e1, f1, g1⟩ := hR.get hi2
    obtain rfl : V.ref p = y2 := by
      replace ey2 : (as.map V.ref)[i]? = some y2 := ey2
      rw [List.getElem?_map, e1] at ey2
      exact Option.some.inj ey2
    have s3 : Same H (upd H' tp (.tup [.int (i : Nat), .ref p])) := s'.trans (Same.new ntp)
    have hn1 := hT.n1
    have hn12 := hT.n12
    refine ⟨tp, _, rfl, SqT.of upd_same, rfl, _, _, rfl, _, _, rfl, rfl, ?_⟩
    refine ⟨_, rfl, _, _, rfl, rfl, _, rfl, iteD (by omega) ?_⟩
    refine ⟨_, _, rfl, rfl, _, rfl, ?_⟩
    rw [decide_eq_true (show (n : Int) ≤ 12 by omega)]
    refine iteF ?_
    refine ⟨_, rfl, _, rfl, p, n, r, rfl, s3 _ _ g1, hT.len _ (List.mem_of_getElem? f1), by omega, hT.lt _ (List.mem_of_getElem? f1), fun H4 s4 => ?_⟩
    refine ⟨_, rfl, iteF ?_⟩
    exact ⟨_, _, rfl, s3.trans s4⟩
  · rintro σ H' ⟨o1, o2, rfl, s'⟩
    refine ⟨_, rfl, a, rfl, ⟨_, sqv s'⟩, fun D hD => ?_⟩
    refine lc_list (K := K) (a := a) (xs := as.map V.ref) (fun i H2 => ∃ H3, Same H H3 ∧ H3 D = none ∧ H2 = upd H3 D (.lst ((as.map V.ref).take i))) ⟨_, s', hD, rfl⟩ (fun i H2 hi ⟨H3, s3, n3, e⟩ => by rw [e]; exact sqv (s3.trans (Same.new n3))) (fun i x H2 hx ⟨H3, s3, n3, e⟩ => ?_) fun H2 ⟨H3, s3, n3, e⟩ => ?_
    · have hi2 : i < T.length := by
        have := (List.getElem?_eq_some_iff.mp hx).1
        rw [List.length_map, hlen] at this
        exact this
      obtain ⟨p, r, e1, f1, g1⟩ := hR.get hi2
      obtain rfl : V.ref p = x := by
        rw [List.getElem?_map, e1] at hx
        exact Option.some.inj hx
      refine ⟨rfl, ?_⟩
      refine yesT (iteT ?_)
      refine ⟨_, rfl, p, _, rfl, SqT.of (by rw [e]; exact (s3.trans (Same.new n3)) _ _ g1), ?_⟩
      refine ⟨_, by rw [e]; exact upd_same, small1000 (by rw [List.length_take]; omega), H3, s3, n3, ?_⟩
      rw [e, upd_upd]
      congr 2
      rw [List.take_add_one, hx] <;> rfl
    · rw [List.take_length] at e
      refine ⟨D, _, rfl, .inl ⟨SqL.of (by rw [e]; exact upd_same), fun l hl => ?_⟩⟩
      exact q _ l ((s3.trans (Same.new n3)).trans (by rw [e]; rw [e] at hl; exact Same.new hl)) (by
        cases z : H l with
        | none => rfl
        | some o =>
          rw [e, (s3.trans (Same.new n3)) _ _ z] at hl
          cases hl) upd_same
/-! ### Machine -/
def spMachInit (CM : Addr) : Sp := fun vs H Q _ => ∃ (m a dx : Addr) (as : List Addr) (T : List (List Nat)) (n : Nat), vs = [.ref m, .ref a] ∧ H m = some (.ins CM dx []) ∧ H a = some (.lst (as.map V.ref)) ∧ RowsAt H as T ∧ TabOk T n ∧
  ∀ H' t, SameBut m H H' → H t = none → H' t = some (.tup (as.map V.ref)) → MachA CM H' m t dx T.length n → Q .non H'
abbrev N_Machine_init : List Str := ["self", "tables"]
theorem sc_Machine_init : FnScope N_Machine_init ["self", "tables"] (defScope s_Machine_init) := ⟨rfl, rfl, rfl, by decide +kernel, rfl, by decide +kernel, by decide +kernel⟩
theorem ok_Machine_init {CM : Addr} {f : Addr} {fd : FuncData} (F : Fd K "__init__" "Machine.__init__" s_Machine_init f fd) (B : Bu mg) (M : MF K CM) (C_check_tables : Cal Pg w K mg base 5 "check_tables" ["value"] spCheck) :
    FnOk Pg w K mg base (L2.CX Pg w) 6 f fd ["self", "tables"] (spMachInit CM) := by
  refine okN F sc_Machine_init (fun vs H Q E ⟨m, a, dx, as, T, n, e, _⟩ => by rw [e] <;> rfl) fun cdv A outer s H vs Q E hr ⟨m, a, dx, as, T, n, ev, hm, ha, hR, hT, q⟩ => ?_
  subst ev
  refine ⟨_, (pss_cons (ps_fld (pv 0) (pe_cal C_check_tables hr (by rfl) passL (pa_cons (pv 1) pa_nil)) rfl)
  (pss_cons (ps_fld (pv 0) (pe_callB call_len_seq (by rfl) B.len (by decide +kernel) (pa_cons (pe_fld (pv 0) rfl) pa_nil)) rfl)
  (pss_one (ps_fld (pv 0) (pe_callB call_len_seq (by rfl) B.len (by decide +kernel) (pa_cons (pe_ix ix_tup (pe_fld (pv 0) rfl) pe_int (fun _ _ => rfl)) pa_nil)) rfl)))), ?_⟩
  obtain ⟨p0, r0, e0, f0, g0⟩ := hR.get (i := 0) (by have := hT.d1; omega)
  have hr0 : r0.length = n := hT.len _ (List.mem_of_getElem? f0)
  refine ⟨_, rfl, a, as, T, n, rfl, ha, hR, hT, fun H1 t s1 nt ht => ?_⟩
  have tm : t ≠ m := fun z => by rw [z, hm] at nt; cases nt
  have pm : p0 ≠ m := ne_of g0 hm (by intro z; cases z)
  refine ⟨_, rfl, m, CM, dx, _, rfl, s1 _ _ hm, M.cl, M.tables, by decide, ?_⟩
  refine ⟨_, rfl, m, CM, dx, _, _, rfl, upd_same, M.cl, M.tables, rfl, t, _, rfl, .inr (SqT.of ((upd_ne tm).trans ht)), ?_⟩
  refine ⟨_, rfl, m, CM, dx, _, rfl, upd_same, M.cl, M.deeds, by show (1 : Nat) < 1000; decide, ?_⟩
  refine ⟨_, rfl, m, CM, dx, _, _, rfl, upd_same, M.cl, M.tables, rfl, t, as.map V.ref, _, _, rfl, rfl, SqT.of (by rw [upd_ne tm, upd_ne tm]; exact ht), at0 (by rw [List.getElem?_map, e0] <;> rfl), p0, iv r0, rfl, .inr (SqT.of (by rw [upd_ne pm, upd_ne pm]; exact s1 _ _ g0)), ?_⟩
  refine ⟨_, rfl, m, CM, dx, _, rfl, upd_same, M.cl, M.states, by show (2 : Nat) < 1000; decide, ?_⟩
  refine q _ t (fun b o hb e => ?_) nt ?_ ?_
  · rw [upd_ne hb, upd_ne hb, upd_ne hb]
    exact s1 _ _ e
  · rw [upd_ne tm]
    rw [upd_ne tm, upd_ne tm]
    exact ht
  · show upd _ m _ m = _
    rw [upd_same, List.length_map, List.length_map, hr0, hR.1] <;> rfl
end
end K35
set_option maxHeartbeats 4000000
/-! Machine.__eq__, orbit. -/
namespace K35
open PySem PySem.Spec PyProof.Rows L2
/-- a machine of the tables T, n states, stands at m -/
def MachOk (CM : Addr) (H : Hp) (m : Addr) (T : List (List Nat)) (n : Nat) : Prop := ∃ t dx as, MachA CM H m t dx T.length n ∧ H t = some (.tup (as.map V.ref)) ∧ RowsAt H as T ∧ TabOk T n
theorem MachOk.keep {CM : Addr} {H H' : Hp} {m : Addr} {T : List (List Nat)} {n : Nat} (h : MachOk CM H m T n) (k : ∀ b o, ((∃ xs, o = .tup xs) ∨ b = m) → H b = some o → H' b = some o) : MachOk CM H' m T n := by
  obtain ⟨t, dx, as, h1, h2, h3, h4⟩ := h
  exact ⟨t, dx, as, k _ _ (.inr rfl) h1, k _ _ (.inl ⟨_, rfl⟩) h2, h3.same fun b xs e => k _ _ (.inl ⟨_, rfl⟩) e, h4⟩
theorem MachOk.same {CM : Addr} {H H' : Hp} {m : Addr} {T : List (List Nat)} {n : Nat} (h : MachOk CM H m T n) (s : Same H H') : MachOk CM H' m T n := h.keep fun b o _ e => s b o e
theorem MachOk.tab {CM : Addr} {H : Hp} {m : Addr} {T : List (List Nat)} {n : Nat} (h : MachOk CM H m T n) : TabOk T n := let ⟨_, _, _, _, _, _, h⟩ := h; h
/-- one entry of a row -/
theorem TabOk.at {T : List (List Nat)} {n : Nat} (h : TabOk T n) {d s : Nat} {r : List Nat} (hr : T[d]? = some r) (hs : s < n) : (iv r)[s]? = some (vi (stp T d s)) ∧ stp T d s < n := by
  have hm := List.mem_of_getElem? hr
  have hl := h.len r hm
  have h1 : r[s]? = some (r[s]'(by omega)) := List.getElem?_eq_getElem (by omega)
  have e := stp_of hr h1
  rw [e]
  exact ⟨by rw [List.getElem?_map, h1] <;> rfl, h.lt r hm _ (List.getElem_mem _)⟩
theorem TabOk.lt' {T : List (List Nat)} {n : Nat} (h : TabOk T n) {d s : Nat} (hd : d < T.length) (hs : s < n) : stp T d s < n := (h.at (List.getElem?_eq_getElem hd) hs).2
/-! ### what == of tables asks -/
def dRow (r : List Nat) : PyData := .tuple (r.map fun x => PyData.int ((x : Nat) : Int))
def dTab (T : List (List Nat)) : PyData := .tuple (T.map dRow)
theorem dp_iv {K : PySem.W.Frag} {H : Hp} : ∀ r : List Nat, DpAll K H (iv r) (r.map fun x => PyData.int ((x : Nat) : Int))
  | [] => .nil
  | x :: r => .cons (.int x) (dp_iv r)
theorem dp_rows {K : PySem.W.Frag} {H : Hp} : ∀ {as : List Addr} {T : List (List Nat)}, RowsAt H as T → DpAll K H (as.map V.ref) (T.map dRow)
  | [], [], _ => .nil
  | a :: as, r :: T, h => .cons (.tup (SqT.of (h.2 0 a r rfl rfl)) (dp_iv r)) (dp_rows ⟨Nat.succ.inj h.1, fun i b s e1 e2 => h.2 (i + 1) b s e1 e2⟩)
  | [], r :: T, h => absurd h.1 (by simp)
  | a :: as, [], h => absurd h.1 (by simp)
theorem cl_ints : ∀ r : List Nat, PyData.canLayAll0 (r.map fun x => PyData.int ((x : Nat) : Int)) = true ∧ PyData.depthAll (r.map fun x => PyData.int ((x : Nat) : Int)) = 0
  | [] => ⟨rfl, rfl⟩
  | x :: r => by
    obtain ⟨h1, h2⟩ := cl_ints r
    simp only [List.map_cons, PyData.canLayAll0, PyData.depthAll, PyData.canLay0, PyData.depth, h1, h2]
    exact ⟨rfl, rfl⟩
theorem cl_rows : ∀ T : List (List Nat), PyData.canLayAll0 (T.map dRow) = true ∧ PyData.depthAll (T.map dRow) ≤ 1
  | [] => ⟨rfl, by simp [PyData.depthAll]⟩
  | r :: T => by
    obtain ⟨h1, h2⟩ := cl_rows T
    obtain ⟨k1, k2⟩ := cl_ints r
    simp only [List.map_cons, PyData.canLayAll0, PyData.depthAll, dRow, PyData.canLay0, PyData.depth, h1, k1, k2]
    exact ⟨rfl, by omega⟩
theorem cl_tab (T : List (List Nat)) : (dTab T).canLay0 = true := by
  simp only [dTab, PyData.canLay0, (cl_rows T).1]
theorem sh_tab (T : List (List Nat)) : SeqAt.shaped (dTab T) = true := by
  unfold SeqAt.shaped
  rw [cl_tab]
  have h := (cl_rows T).2
  have e : (dTab T).depth ≤ 64 := by
    simp only [dTab, PyData.depth]
    omega
  rw [decide_eq_true e] <;> rfl
section
variable {w : World} {K : PySem.W.Frag} {mg : Str → Option Value} {base : Heap}
/-! ### Machine.__eq__ -/
def spMachEq (CM : Addr) : Sp := fun vs H Q _ => ∃ (a b : Addr) (T : List (List Nat)) (n : Nat), vs = [.ref a, .ref b] ∧ MachOk CM H a T n ∧ MachOk CM H b T n ∧ Q (.bl true) H
abbrev N_Machine_eq : List Str := ["self", "other"]
theorem sc_Machine_eq : FnScope N_Machine_eq ["self", "other"] (defScope s_Machine_eq) := ⟨rfl, rfl, rfl, by decide +kernel, rfl, by decide +kernel, by decide +kernel⟩
theorem ok_Machine_eq {CM : Addr} {f : Addr} {fd : FuncData} (F : Fd K "__eq__" "Machine.__eq__" s_Machine_eq f fd) (B : Bu mg) (M : MF K CM) (hgM : mg "Machine" = some (.ref CM)) (hn : PySem.W.specialIn K (.builtin "object.__class__") "__get__" = some (some (.builtin "getset_descriptor.__get__")))
    (hcl : PySem.W.findIn K (.ref CM) "__class__" = some (some (.builtin "object.__class__"))) (htk : PySem.W.takesIn K (.builtin "object.__class__") = some true) (hm : PySem.W.mroIn K CM (.type "object") = some true) :
    FnOk Pg w K mg base (L2.CX Pg w) 1 f fd ["self", "other"] (spMachEq CM) := by
  refine okN F sc_Machine_eq (fun vs H Q E ⟨a, b, T, n, e, _⟩ => by rw [e] <;> rfl) fun cdv A outer s H vs Q E hr ⟨a, b, T, n, ev, ⟨ta, da, as, a1, a2, a3, a4⟩, ⟨tb, db, bs, b1, b2, b3, b4⟩, q⟩ => ?_
  subst ev
  refine ⟨_, (pss_one (ps_ret (pe_and (pe_callB call_isi (by rfl) B.isinstance (by decide +kernel) (pa_cons (pv 1) (pa_cons (pe_glob (v := .ref CM) (by rfl) hgM rfl) pa_nil))) (pe_one (pe_cmpR (op_eqD hr.units) (pe_fld (pv 0) rfl) (pe_fld (pv 1) rfl) (nomark _)))))), ?_⟩
  refine ⟨_, rfl, _, _, _, _, true, rfl, .own CM, .base (.ins b1 M.cl hcl hn htk hm), ?_, ?_⟩
  · unfold PySem.W.kitOne
    simp
  refine ⟨_, rfl, iteT ?_⟩
  refine ⟨_, rfl, _, CM, _, _, _, rfl, a1, M.cl, M.tables, rfl, _, rfl, _, CM, _, _, _, rfl, b1, M.cl, M.tables, rfl, ?_⟩
  refine ⟨dTab T, dTab T, .tup (SqT.of a2) (dp_rows a3), .tup (SqT.of b2) (dp_rows b3), sh_tab T, sh_tab T, ?_⟩
  rw [SeqAt.eqv_refl _ (cl_tab T)]
  exact q
/-! ### orbit -/
structure OrbOk (T : List (List Nat)) (n s : Nat) (l : List Nat) : Prop where
  mem : s ∈ l
  lt : ∀ x ∈ l, x < n
  inc : ∀ S : Nat → Prop, S s → Closed T S → ∀ x ∈ l, S x
structure OrbInv (T : List (List Nat)) (n s : Nat) (F W : List Nat) : Prop where
  ok : OrbOk T n s F
  nd : F.Nodup
  sub : ∀ x ∈ W, x ∈ F
  len : W.length ≤ F.length
def kF (F : List Nat) : List (Key × V) := F.map fun x => (Sum.inl ((x : Nat) : Int), V.bl true)
theorem valF : ∀ (F : List Nat) (x : Nat), valV (kF F) (Sum.inl ((x : Nat) : Int)) = if x ∈ F then some (.bl true) else none
  | [], x => by simp [kF, valV_nil]
  | y :: F, x => by
    by_cases h : y = x
    · subst h
      rw [if_pos (List.mem_cons_self ..)]
      exact valV_pos (p := (Sum.inl ((y : Nat) : Int), V.bl true)) rfl
    · have e : valV (kF (y :: F)) (Sum.inl ((x : Nat) : Int)) = valV (kF F) (Sum.inl ((x : Nat) : Int)) := valV_neg (p := (Sum.inl ((y : Nat) : Int), V.bl true)) (fun z => h (by injection z with z; omega))
      rw [e, valF F x]
      by_cases hx : x ∈ F
      · rw [if_pos hx, if_pos (List.mem_cons_of_mem _ hx)]
      · rw [if_neg hx, if_neg (fun z => (List.mem_cons.mp z).elim (fun z => h z.symm) hx)]
theorem putF' {F : List Nat} {x : Nat} (h : x ∉ F) : putK (kF F) (Sum.inl ((x : Nat) : Int)) (.bl true) = kF (F ++ [x]) := by
  rw [putK_new _ (by rw [valF, if_neg h])]
  unfold kF
  rw [List.map_append] <;> rfl
def dlen (o : Option HO) : Nat := match o with
  | some (.dK kvs) => kvs.length
  | _ => 0
def llen (o : Option HO) : Nat := match o with
  | some (.lst xs) => xs.length
  | _ => 0
def spOrbit (CM : Addr) : Sp := fun vs H Q _ => ∃ (m : Addr) (T : List (List Nat)) (n s : Nat), vs = [.ref m, vi s] ∧ MachOk CM H m T n ∧ s < n ∧
  ∀ H' p l, Same H H' → H p = none → H' p = some (.tup (iv l)) → OrbOk T n s l → l.Pairwise (· ≤ ·) → l.length ≤ 12 → Q (.ref p) H'
abbrev N_orbit : List Str := ["machine", "state", "found", "waiting", "here", "table"]
theorem sc_orbit : FnScope N_orbit ["machine", "state"] (defScope s_orbit) := ⟨rfl, rfl, rfl, by decide +kernel, rfl, by decide +kernel, by decide +kernel⟩
theorem ok_orbit {CM CS : Addr} {f : Addr} {fd : FuncData} (F : Fd K "orbit" "orbit" s_orbit f fd) (B : Bu mg) (M : MF K CM) (C_need_state : Cal Pg w K mg base 4 "need_state" ["machine", "state"] (spNeedState K CM CS)) :
    FnOk Pg w K mg base (L2.CX Pg w) 5 f fd ["machine", "state"] (spOrbit CM) := by
  refine okN F sc_orbit (fun vs H Q E ⟨m, T, n, s, e, _⟩ => by rw [e] <;> rfl) fun cdv A outer s0 H vs Q E hr ⟨m, T, n, s, ev, hM, hs, q⟩ => ?_
  subst ev
  refine ⟨_, (pss_cons (ps_set (i := 2) sc_orbit.nd rfl (Or.inl rfl) (pe_disp (pps_cons (pe_cal C_need_state hr (by rfl) passL (pa_cons (pv 0) (pa_cons (pv 1) pa_nil))) pe_bl pps_nil) (by rfl) (by rfl) (fun z => by cases z) (by decide)))
  (pss_cons (ps_set (i := 3) sc_orbit.nd rfl (Or.inl rfl) (pe_lst (pa_cons (pv 1) pa_nil)))
  (pss_cons (ps_while PassesOwn.never (pt_cmpR op_gt (pe_callB call_len_seq (by rfl) B.len (by decide +kernel) (pa_cons (pv 3) pa_nil)) pe_int (nomark _)) (pss_cons (ps_set (i := 4) sc_orbit.nd rfl (Or.inl rfl) (pe_bm0 PySem.F.plainAttrs_list PySem.F.slot_list_pop PySem.F.type_list_pop mt_pop (pv 3)))
  (pss_one (ps_for PassesOwn.never rfl (pi_tup (pe_fld (pv 0) rfl)) (pg_name (i := 5) sc_orbit.nd rfl (Or.inl rfl))
   (pss_one (ps_if (pt_cmp (pc_dnotin (hu_of hr) (pe_ix ix_tup (pv 5) (pv 4) (fun _ _ => rfl)) (pv 2))) (pss_cons (ps_dput (hu_of hr) (pv 2) (pe_ix ix_tup (pv 5) (pv 4) (fun _ _ => rfl)) pe_bl rfl)
  (pss_one (ps_expr (pe_bm PySem.F.plainAttrs_list PySem.F.slot_list_append PySem.F.type_list_append mt_append (pv 3) (pa_cons (pe_ix ix_tup (pv 5) (pv 4) (fun _ _ => rfl)) pa_nil))))) pss_nil))))))
  (pss_one (ps_ret (pe_callTy (T := "tuple") call_tuple_of (by rfl) B.tuple (by decide +kernel) (pa_cons (pe_callB cr_sortedI (by rfl) B.sorted (by decide +kernel) (pa_cons (pe_callTy (T := "list") (call_listD rfl) (by rfl) B.list (by decide +kernel) (pa_cons (pv 2) pa_nil)) pa_nil)) pa_nil))))))), ?_⟩
  have hT := hM.tab
  have hn12 := hT.n12
  refine fun fd nfd => ⟨_, rfl, _, rfl, ?_⟩
  obtain ⟨t, dx, as, m1, m2, m3, _⟩ := hM
  have n1 : ∀ {b : Addr} {o : HO}, H b = some o → b ≠ fd := fun e => ne_of_none e nfd
  refine ⟨m, t, dx, T.length, n, vi s, rfl, (upd_ne (n1 m1)).trans m1, .int _, fun _ => ?_, fun z => ?_⟩
  rotate_left
  · have e2 : isBel (n : Int) (vi s) = true := by
      show (decide ((0 : Int) ≤ s) && decide ((s : Int) < n)) = true
      rw [decide_eq_true (by omega), decide_eq_true (by omega)] <;> rfl
    rw [e2] at z
    cases z
  refine ⟨upd_same, kF [s], rfl, by show 1 ≤ 15; decide, ?_⟩
  have e0 : mergeK [] (kF [s]) = kF [s] := rfl
  rw [e0, upd_upd]
  refine ⟨_, rfl, by show 1 ≤ sizeLine; decide, fun wt nwt => ?_⟩
  have nw0 : H wt = none := (Same.new nfd).free nwt
  have dw : fd ≠ wt := fun z => by rw [← z, upd_same] at nwt; cases nwt
  -- the while
  refine while_by (fun σ H' => ∃ (F W : List Nat) (o1 o2 : Option V), σ = [some (.ref m), some (vi s), some (.ref fd), some (.ref wt), o1, o2] ∧ Same H H' ∧ H' fd = some (.dK (kF F)) ∧ H' wt = some (.lst (iv W)) ∧ OrbInv T n s F W)
    (fun _ H' => 2 * (n - dlen (H' fd)) + llen (H' wt)) ⟨[s], [s], none, none, rfl, (Same.new nfd).trans (Same.new nwt), (upd_ne dw).trans upd_same, upd_same, ⟨⟨List.mem_cons_self .., fun x hx => by rw [List.mem_singleton.mp hx]; exact hs, fun S h0 _ x hx => by rw [List.mem_singleton.mp hx]; exact h0⟩, List.pairwise_singleton _ _, fun x hx => hx, Nat.le_refl _⟩⟩ ?_ ?_
  rotate_left
  · rintro σ H' Q1 Q2 imp ⟨v, hv, p, n0, e1, h1, i, j, e2, e3, k, e4, q1⟩
    exact ⟨v, hv, p, n0, e1, h1, i, j, e2, e3, k, e4, imp _ _ q1⟩
  rintro σ H' ⟨F, W, o1, o2, rfl, sH, hF, hW, inv⟩
  refine ⟨_, rfl, wt, _, rfl, .inl (SqL.of hW), _, _, rfl, rfl, _, rfl, ?_⟩
  have hFn : F.length ≤ n := nodup_le n F inv.nd inv.ok.lt
  by_cases hw : W = []
  · -- no more waiting
    subst hw
    refine iteDn (by simp) ?_
    refine ⟨_, rfl, fd, kF F, rfl, .inl hF, fun p1 np1 => ?_⟩
    have ek : (kF F).map (fun kv => kV kv.1) = (F.map fun x => ((x : Nat) : Int)).map V.int := by
      unfold kF
      rw [List.map_map, List.map_map] <;> rfl
    refine ⟨p1, F.map fun x => ((x : Nat) : Int), rfl, SqL.of (by rw [ek]; exact upd_same), fun ns p2 perm rising np2 => ?_⟩
    have ens : ns = (ns.map Int.toNat).map fun x => ((x : Nat) : Int) := by
      rw [List.map_map]
      have : ∀ z ∈ ns, z = ((fun x : Nat => (x : Int)) ∘ Int.toNat) z := fun z hz => by
        obtain ⟨x, _, rfl⟩ := List.mem_map.mp (perm.mem_iff.mp hz)
        rfl
      conv => lhs; rw [← List.map_id ns]
      exact List.map_congr_left this
    have memF : ∀ x : Nat, x ∈ ns.map Int.toNat ↔ x ∈ F := fun x => by
      constructor
      · intro h
        obtain ⟨z, hz, rfl⟩ := List.mem_map.mp h
        obtain ⟨y, hy, rfl⟩ := List.mem_map.mp (perm.mem_iff.mp hz)
        exact hy
      · intro h
        exact List.mem_map.mpr ⟨(x : Int), perm.mem_iff.mpr (List.mem_map.mpr ⟨x, h, rfl⟩), rfl⟩
    refine ⟨p2, _, rfl, .inl ⟨SqL.of upd_same, fun p hp => ?_⟩⟩
    have s1 : Same H' (upd H' p1 (.lst ((kF F).map fun kv => kV kv.1))) := Same.new np1
    have s2 := s1.trans (Same.new (o := .lst (ns.map V.int)) np2)
    have s3 := s2.trans (Same.new (o := .tup (ns.map V.int)) hp)
    refine q _ p (ns.map Int.toNat) (sH.trans s3) (sH.free (s2.free hp)) ?_ ⟨(memF s).mpr inv.ok.mem, fun x hx => inv.ok.lt x ((memF x).mp hx), fun S h0 hc x hx => inv.ok.inc S h0 hc x ((memF x).mp hx)⟩ ?_ ?_
    · rw [upd_same]
      conv => lhs; rw [ens]
      show some (HO.tup (((ns.map Int.toNat).map fun x => ((x : Nat) : Int)).map V.int)) = some (HO.tup ((ns.map Int.toNat).map vi))
      rw [List.map_map] <;> rfl
    · rw [ens] at rising
      have r2 := List.pairwise_map.mp rising
      exact r2.imp fun h => by omega
    · rw [List.length_map, perm.length_eq, List.length_map]
      omega
  · -- one more is taken
    obtain ⟨W', z, rfl⟩ : ∃ W' z, W = W' ++ [z] := ⟨W.dropLast, W.getLast hw, (List.dropLast_concat_getLast hw).symm⟩
    refine iteD (by rw [List.length_map, List.length_append]; show (0 : Int) < _; simp only [List.length_singleton]; omega) ?_
    have hz : z < n := inv.ok.lt z (inv.sub z (by simp))
    have zF : z ∈ F := inv.sub z (by simp)
    have eW : iv (W' ++ [z]) = iv W' ++ [vi z] := by
      show (W' ++ [z]).map vi = _
      rw [List.map_append] <;> rfl
    rw [eW] at hW
    refine ⟨_, rfl, .inl ⟨rfl, _, SqL.of hW⟩, wt, _, vi z, rfl, rfl, hW, by simp, ?_⟩
    rw [List.dropLast_concat]
    have hWlen : llen (H' wt) = W'.length + 1 := by rw [hW]; simp [llen]
    have hFlen : dlen (H' fd) = F.length := by rw [hF]; simp [dlen, kF]
    -- each table
    have wH : H wt = none := nw0
    refine ⟨_, rfl, m, CM, dx, _, _, rfl, (upd_ne (ne_of_none m1 wH)).trans (sH _ _ m1), M.cl, M.tables, rfl, t, rfl, ⟨as.map V.ref, SqT.of ((upd_ne (ne_of_none m2 wH)).trans (sH _ _ m2))⟩,
      for_it (walk_tup (xs := as.map V.ref)) (fun i σ H2 => ∃ (F2 W2 : List Nat) (o2 : Option V), σ = [some (.ref m), some (vi s), some (.ref fd), some (.ref wt), some (vi z), o2] ∧ Same H H2 ∧ H2 fd = some (.dK (kF F2)) ∧ H2 wt = some (.lst (iv W2)) ∧ OrbInv T n s F2 W2 ∧ z ∈ F2 ∧ 2 * (n - F2.length) + W2.length + 1 ≤ 2 * (n - F.length) + W'.length + 1)
        ⟨F, W', o2, rfl, fun b o e => (upd_ne (ne_of_none e wH)).trans (sH _ _ e), (upd_ne dw).trans hF, upd_same, ⟨inv.ok, inv.nd, fun x hx => inv.sub x (by simp [hx]), by have := inv.len; rw [List.length_append, List.length_singleton] at this; omega⟩, zF, Nat.le_refl _⟩
        (fun i σ H2 _ ⟨_, _, _, _, sH2, _⟩ => SqT.of (sH2 _ _ m2)) ?_ ?_⟩
    · rintro i x σ H2 H2' hi ⟨F2, W2, o2, rfl, sH2, hF2, hW2, inv2, zF2, hm⟩ ⟨rfl, hx⟩
      have hi2 : i < T.length := by rw [List.length_map, m3.1] at hi; exact hi
      obtain ⟨p, r, e1, f1, g1⟩ := m3.get hi2
      obtain rfl : V.ref p = x := by
        rw [List.getElem?_map, e1] at hx
        exact Option.some.inj hx
      obtain ⟨hy, hyn⟩ := hT.at f1 hz
      have gp : H2' p = some (.tup (iv r)) := sH2 _ _ g1
      refine ⟨_, rfl, _, rfl, p, _, _, _, rfl, rfl, SqT.of gp, atI_nat hy, _, rfl, fd, _, rfl, DGet.k (k := Sum.inl ((stp T i z : Nat) : Int)) hF2, _, rfl, ?_⟩
      rw [valF]
      by_cases hin : stp T i z ∈ F2
      · rw [if_pos hin]
        refine iteF ⟨F2, W2, _, rfl, sH2, hF2, hW2, inv2, zF2, hm⟩
      · rw [if_neg hin]
        have hF2n : F2.length ≤ n := nodup_le n F2 inv2.nd inv2.ok.lt
        have nd2 : (F2 ++ [stp T i z]).Nodup := List.nodup_append.mpr ⟨inv2.nd, List.pairwise_singleton _ _, fun a ha b hb => by rw [List.mem_singleton.mp hb]; exact fun e => hin (e ▸ ha)⟩
        have lt2 : ∀ x ∈ F2 ++ [stp T i z], x < n := fun x hx => (List.mem_append.mp hx).elim (inv2.ok.lt x) fun hx => by rw [List.mem_singleton.mp hx]; exact hyn
        have hF3n := nodup_le n _ nd2 lt2
        rw [List.length_append, List.length_singleton] at hF3n
        have hW2n : W2.length ≤ 200 := by have := inv2.len; omega
        refine iteT ?_
        refine ⟨_, rfl, _, rfl, _, rfl, p, _, _, _, rfl, rfl, SqT.of gp, atI_nat hy, fd, _, rfl, DPut.k (k := Sum.inl ((stp T i z : Nat) : Int)) hF2 (small1000 (by unfold kF; rw [List.length_map]; omega)), ?_⟩
        rw [putF' hin]
        have gp2 : upd H2' fd (.dK (kF (F2 ++ [stp T i z]))) p = some (.tup (iv r)) := (upd_ne (ne_of gp hF2 (by intro z; cases z))).trans gp
        have hW3 : upd H2' fd (.dK (kF (F2 ++ [stp T i z]))) wt = some (.lst (iv W2)) := (upd_ne (Ne.symm dw)).trans hW2
        refine ⟨_, rfl, .inl ⟨rfl, _, SqL.of hW3⟩, _, rfl, _, rfl, p, _, _, _, rfl, rfl, SqT.of gp2, atI_nat hy, wt, iv W2, _, rfl, rfl, hW3, small1000 (by rw [List.length_map]; omega), ?_⟩
        refine ⟨F2 ++ [stp T i z], W2 ++ [stp T i z], _, rfl, fun b o e => ?_, (upd_ne dw).trans upd_same, ?_, ⟨⟨List.mem_append_left _ inv2.ok.mem, lt2, fun S h0 hc x hx => ?_⟩, nd2, fun x hx => ?_, by rw [List.length_append, List.length_append]; have := inv2.len; omega⟩, List.mem_append_left _ zF2, ?_⟩
        · rw [upd_ne (ne_of_none e wH), upd_ne (n1 e)]
          exact sH2 _ _ e
        · rw [upd_same]
          show some (HO.lst (iv W2 ++ [vi (stp T i z)])) = some (HO.lst ((W2 ++ [stp T i z]).map vi))
          rw [List.map_append] <;> rfl
        · rcases List.mem_append.mp hx with hx | hx
          · exact inv2.ok.inc S h0 hc x hx
          · rw [List.mem_singleton.mp hx]
            exact hc z (inv2.ok.inc S h0 hc z zF2) i hi2
        · rcases List.mem_append.mp hx with hx | hx
          · exact List.mem_append_left _ (inv2.sub x hx)
          · exact List.mem_append_right _ hx
        · rw [List.length_append, List.length_append, List.length_singleton]
          omega
    · rintro σ H2 ⟨F2, W2, o2, rfl, sH2, hF2, hW2, inv2, zF2, hm⟩
      refine ⟨⟨F2, W2, _, _, rfl, sH2, hF2, hW2, inv2⟩, ?_⟩
      rw [hWlen, hFlen, hF2, hW2]
      simp only [dlen, llen, kF, List.length_map]
      omega
end
end K35
set_option maxHeartbeats 4000000
/-! pair_rows, ends_of, join. -/
namespace K35
open PySem PySem.Spec PyProof.Rows L2
/-- a pair that is reached, and by which row -/
abbrev PR := Nat × Nat × List Nat
def prs (P : List PR) : List (Nat × Nat) := P.map fun p => (p.1, p.2.1)
structure PairsIn (T : List (List Nat)) (n a b : Nat) (P : List PR) : Prop where
  nd : (prs P).Nodup
  mem : (a, b) ∈ prs P
  lt : ∀ p ∈ P, p.1 < n ∧ p.2.1 < n
  row : ∀ p ∈ P, (∀ d ∈ p.2.2, d < T.length) ∧ run T p.2.2 a = p.1 ∧ run T p.2.2 b = p.2.1 ∧ p.2.2.length ≤ P.length
structure PairsOk (T : List (List Nat)) (n a b : Nat) (P : List PR) : Prop where
  inn : PairsIn T n a b P
  closed : ∀ p ∈ prs P, ∀ d, d < T.length → (stp T d p.1, stp T d p.2) ∈ prs P
theorem PairsIn.len {T : List (List Nat)} {n a b : Nat} {P : List PR} (h : PairsIn T n a b P) (hn : n ≤ 12) : P.length ≤ 144 := by
  have e : ((prs P).map fun q => q.1 * n + q.2).Nodup := by
    refine List.pairwise_map.mpr (h.nd.imp_of_mem fun {x y} hx hy hne e => hne ?_)
    obtain ⟨p, hp, rfl⟩ := List.mem_map.mp hx
    obtain ⟨q, hq, rfl⟩ := List.mem_map.mp hy
    have l1 := h.lt p hp
    have l2 := h.lt q hq
    have e : p.1 * n + p.2.1 = q.1 * n + q.2.1 := e
    have n0 : 0 < n := by omega
    have d1 : (p.1 * n + p.2.1) / n = p.1 := by rw [Nat.mul_comm, Nat.mul_add_div n0, Nat.div_eq_of_lt l1.2] <;> rfl
    have d2 : (q.1 * n + q.2.1) / n = q.1 := by rw [Nat.mul_comm, Nat.mul_add_div n0, Nat.div_eq_of_lt l2.2] <;> rfl
    have f1 : p.1 = q.1 := by rw [← d1, ← d2, e]
    have f2 : p.2.1 = q.2.1 := by rw [f1] at e; omega
    exact Prod.ext f1 f2
  have k := nodup_le (n * n) _ e fun x hx => by
    obtain ⟨q, hq, rfl⟩ := List.mem_map.mp hx
    obtain ⟨p, hp, rfl⟩ := List.mem_map.mp hq
    have l1 := h.lt p hp
    have : (p.1 + 1) * n ≤ n * n := Nat.mul_le_mul_right n (by omega)
    rw [Nat.add_mul] at this
    show p.1 * n + p.2.1 < n * n
    omega
  rw [List.length_map, prs, List.length_map] at k
  have : n * n ≤ 12 * 12 := Nat.mul_le_mul hn hn
  omega
theorem PairsOk.run {T : List (List Nat)} {n a b : Nat} {P : List PR} (h : PairsOk T n a b P) : ∀ {u : List Nat} {x y : Nat}, (x, y) ∈ prs P → (∀ d ∈ u, d < T.length) → (run T u x, run T u y) ∈ prs P
  | [], _, _, hm, _ => hm
  | d :: u, x, y, hm, hu => h.run (u := u) (h.closed _ hm d (hu d (List.mem_cons_self ..))) fun e he => hu e (List.mem_cons_of_mem _ he)
def kk (x y : Nat) : List Key := [Sum.inl ((x : Nat) : Int), Sum.inl ((y : Nat) : Int)]
theorem kk_inj {x y x' y' : Nat} (h : kk x y = kk x' y') : (x, y) = (x', y') := by
  injection h with h1 h2
  injection h2 with h2 _
  injection h1 with h1
  injection h2 with h2
  exact Prod.ext (by show x = x'; omega) (by show y = y'; omega)
theorem kk_map (x y : Nat) : (kk x y).map kV = [vi x, vi y] := rfl
/-- the dict's entries: the rows stand at R -/
def kP : List PR → List Addr → List (List Key × V)
  | p :: P, r :: R => (kk p.1 p.2.1, .ref r) :: kP P R
  | _, _ => []
theorem kP_length : ∀ {P : List PR} {R : List Addr}, P.length = R.length → (kP P R).length = P.length
  | [], _, _ => rfl
  | p :: P, r :: R, h => congrArg Nat.succ (kP_length (Nat.succ.inj h))
  | p :: P, [], h => absurd h (by simp)
theorem kP_snoc : ∀ {P : List PR} {R : List Addr}, P.length = R.length → ∀ (p : PR) (r : Addr), kP (P ++ [p]) (R ++ [r]) = kP P R ++ [(kk p.1 p.2.1, .ref r)]
  | [], [], _, p, r => rfl
  | q :: P, s :: R, h, p, r => congrArg (List.cons _) (kP_snoc (Nat.succ.inj h) p r)
  | q :: P, [], h, _, _ => absurd h (by simp)
  | [], s :: R, h, _, _ => absurd h (by simp)
theorem kP_get : ∀ {P : List PR} {R : List Addr} {i : Nat} {p : PR} {r : Addr}, P[i]? = some p → R[i]? = some r → (kP P R)[i]? = some (kk p.1 p.2.1, .ref r)
  | [], _, i, p, r, h, _ => by simp at h
  | q :: P, [], i, p, r, _, h => by simp at h
  | q :: P, s :: R, 0, p, r, h1, h2 => by
    obtain rfl : q = p := Option.some.inj h1
    obtain rfl : s = r := Option.some.inj h2
    rfl
  | q :: P, s :: R, i + 1, p, r, h1, h2 => kP_get (P := P) (R := R) (i := i) h1 h2
theorem kP_none : ∀ {P : List PR} {R : List Addr} {x y : Nat}, (x, y) ∉ prs P → valV (kP P R) (kk x y) = none
  | [], _, _, _, _ => rfl
  | q :: P, [], _, _, _ => rfl
  | q :: P, s :: R, x, y, h => by
    have e : valV (kP (q :: P) (s :: R)) (kk x y) = valV (kP P R) (kk x y) := valV_neg (p := (kk q.1 q.2.1, V.ref s)) (fun z => h (by rw [← kk_inj z]; exact List.mem_cons_self ..))
    rw [e]
    exact kP_none fun z => h (List.mem_cons_of_mem _ z)
theorem kP_some : ∀ {P : List PR} {R : List Addr} {i : Nat} {p : PR} {r : Addr}, (prs P).Nodup → P[i]? = some p → R[i]? = some r → valV (kP P R) (kk p.1 p.2.1) = some (.ref r)
  | [], _, i, p, r, _, h, _ => by simp at h
  | q :: P, [], i, p, r, _, _, h => by simp at h
  | q :: P, s :: R, 0, p, r, _, h1, h2 => by
    obtain rfl : q = p := Option.some.inj h1
    obtain rfl : s = r := Option.some.inj h2
    exact valV_pos (p := (kk q.1 q.2.1, V.ref s)) rfl
  | q :: P, s :: R, i + 1, p, r, hd, h1, h2 => by
    have hd2 := List.nodup_cons.mp hd
    have e : valV (kP (q :: P) (s :: R)) (kk p.1 p.2.1) = valV (kP P R) (kk p.1 p.2.1) := valV_neg (p := (kk q.1 q.2.1, V.ref s)) (fun z => hd2.1 (by
      show (q.1, q.2.1) ∈ prs P
      rw [show (q.1, q.2.1) = (p.1, p.2.1) from kk_inj z]
      exact List.mem_map.mpr ⟨p, List.mem_of_getElem? h1, rfl⟩))
    rw [e]
    exact kP_some hd2.2 h1 h2
/-- the rows stand at R, the pairs at W -/
structure AtPR (H : Hp) (P : List PR) (R W : List Addr) : Prop where
  lr : P.length = R.length
  lw : P.length = W.length
  row : ∀ (i : Nat) (p : PR) (r : Addr), P[i]? = some p → R[i]? = some r → H r = some (.tup (iv p.2.2))
  pair : ∀ (i : Nat) (p : PR) (w : Addr), P[i]? = some p → W[i]? = some w → H w = some (.tup [vi p.1, vi p.2.1])
theorem AtPR.keep {H H' : Hp} {P : List PR} {R W : List Addr} (h : AtPR H P R W) (k : ∀ b xs, H b = some (.tup xs) → H' b = some (.tup xs)) : AtPR H' P R W :=
  ⟨h.lr, h.lw, fun i p r e1 e2 => k _ _ (h.row i p r e1 e2), fun i p w e1 e2 => k _ _ (h.pair i p w e1 e2)⟩
theorem AtPR.snoc {H : Hp} {P : List PR} {R W : List Addr} (h : AtPR H P R W) {p : PR} {r w : Addr} (hr : H r = some (.tup (iv p.2.2))) (hw : H w = some (.tup [vi p.1, vi p.2.1])) : AtPR H (P ++ [p]) (R ++ [r]) (W ++ [w]) := by
  refine ⟨by rw [List.length_append, List.length_append, h.lr] <;> rfl, by rw [List.length_append, List.length_append, h.lw] <;> rfl, fun i q s e1 e2 => ?_, fun i q s e1 e2 => ?_⟩
  · rcases Nat.lt_trichotomy i P.length with hi | hi | hi
    · rw [List.getElem?_append_left hi] at e1
      rw [List.getElem?_append_left (by rw [← h.lr]; exact hi)] at e2
      exact h.row i q s e1 e2
    · subst hi
      rw [List.getElem?_concat_length] at e1
      rw [h.lr, List.getElem?_concat_length] at e2
      cases e1
      cases e2
      exact hr
    · rw [List.getElem?_eq_none (by rw [List.length_append, List.length_singleton]; omega)] at e1
      cases e1
  · rcases Nat.lt_trichotomy i P.length with hi | hi | hi
    · rw [List.getElem?_append_left hi] at e1
      rw [List.getElem?_append_left (by rw [← h.lw]; exact hi)] at e2
      exact h.pair i q s e1 e2
    · subst hi
      rw [List.getElem?_concat_length] at e1
      rw [h.lw, List.getElem?_concat_length] at e2
      cases e1
      cases e2
      exact hw
    · rw [List.getElem?_eq_none (by rw [List.length_append, List.length_singleton]; omega)] at e1
      cases e1
def ix145 : Option (Option V) → Nat
  | some (some (.int i)) => 145 - i.toNat
  | _ => 0
theorem catA_of {K : PySem.W.Frag} {H : Hp} {a b : Addr} {xs ys : List V} {Q : VK} (ha : SqT K H a xs) (hat : H a = some (.tup xs)) (hb : H b = some (.tup ys)) (hz : xs.length + ys.length ≤ sizeLine) (hy : ys ≠ [])
    (k : ∀ p H', Same H H' → H' p = some (.tup (xs ++ ys)) → Q (.ref p) H') : rCatA K (.ref a) (.ref b) H Q :=
  ⟨a, b, xs, ys, rfl, rfl, ha, SqT.of hb, hz, fun e => k b H (Same.refl H) (by rw [e]; exact hb), fun _ e => absurd e hy, fun _ _ p hp => k p _ (Same.new hp) upd_same⟩
section
variable {w : World} {K : PySem.W.Frag} {mg : Str → Option Value} {base : Heap}
/-! ### pair_rows -/
def spPairRows (CM : Addr) : Sp := fun vs H Q _ => ∃ (m : Addr) (T : List (List Nat)) (n a b : Nat), vs = [.ref m, vi a, vi b] ∧ MachOk CM H m T n ∧ a < n ∧ b < n ∧
  ∀ H' d (P : List PR) (R W : List Addr), Same H H' → H d = none → H' d = some (.dT (kP P R)) → AtPR H' P R W → PairsOk T n a b P → Q (.ref d) H'
abbrev N_pair_rows : List Str := ["machine", "one", "other", "found", "waiting", "at", "pair", "deed", "table", "after"]
theorem sc_pair_rows : FnScope N_pair_rows ["machine", "one", "other"] (defScope s_pair_rows) := ⟨rfl, rfl, rfl, by decide +kernel, rfl, by decide +kernel, by decide +kernel⟩
theorem ok_pair_rows {CM : Addr} {f : Addr} {fd : FuncData} (F : Fd K "pair_rows" "pair_rows" s_pair_rows f fd) (B : Bu mg) (M : MF K CM) :
    FnOk Pg w K mg base (L2.CX Pg w) 1 f fd ["machine", "one", "other"] (spPairRows CM) := by
  refine okN F sc_pair_rows (fun vs H Q E ⟨m, T, n, a, b, e, _⟩ => by rw [e] <;> rfl) fun cdv A outer s0 H vs Q E hr ⟨m, T, n, a, b, ev, hM, ha, hb, q⟩ => ?_
  subst ev
  refine ⟨_, (pss_cons (ps_set (i := 3) sc_pair_rows.nd rfl (Or.inl rfl) (pe_dispT1 (hu_of hr) (pe_tup (pa_cons (pv 1) (pa_cons (pv 2) pa_nil))) (pe_tup pa_nil)))
  (pss_cons (ps_set (i := 4) sc_pair_rows.nd rfl (Or.inl rfl) (pe_lst (pa_cons (pe_tup (pa_cons (pv 1) (pa_cons (pv 2) pa_nil))) pa_nil)))
  (pss_cons (ps_set (i := 5) sc_pair_rows.nd rfl (Or.inl rfl) pe_int)
  (pss_cons (ps_while PassesOwn.never (pt_cmpR op_lt (pv 5) (pe_callB call_len_seq (by rfl) B.len (by decide +kernel) (pa_cons (pv 4) pa_nil)) (nomark _)) (pss_cons (ps_set (i := 6) sc_pair_rows.nd rfl (Or.inl rfl) (pe_ix ix_list (pv 4) (pv 5) (fun _ _ => rfl)))
  (pss_cons (ps_aug (i := 5) sc_pair_rows.nd rfl (Or.inl rfl) pe_int ip_add)
  (pss_one (ps_for PassesOwn.never rfl (pi_enumT (by rfl) B.enumerate (pa_cons (pe_fld (pv 0) rfl) pa_nil)) (pg_tup rfl (pgs_cons (pg_name (i := 7) sc_pair_rows.nd rfl (Or.inl rfl)) (pgs_cons (pg_name (i := 8) sc_pair_rows.nd rfl (Or.inl rfl)) pgs_nil)))
   (pss_cons (ps_set (i := 9) sc_pair_rows.nd rfl (Or.inl rfl) (pe_tup (pa_cons (pe_ix ix_tup (pv 8) (pe_ix ix_tup (pv 6) pe_int (fun _ _ => rfl)) (fun _ _ => rfl)) (pa_cons (pe_ix ix_tup (pv 8) (pe_ix ix_tup (pv 6) pe_int (fun _ _ => rfl)) (fun _ _ => rfl)) pa_nil))))
  (pss_one (ps_if (pt_cmp (pc_dnotin (hu_of hr) (pv 9) (pv 3))) (pss_cons (ps_dput (hu_of hr) (pv 3) (pv 9) (pe_op op_catA (pe_dget (hu_of hr) (pv 3) (pv 6) (fun _ _ => rfl)) (pe_tup (pa_cons (pv 7) pa_nil))) rfl)
  (pss_one (ps_expr (pe_bm PySem.F.plainAttrs_list PySem.F.slot_list_append PySem.F.type_list_append mt_append (pv 4) (pa_cons (pv 9) pa_nil))))) pss_nil))))))))
  (pss_one (ps_ret (pv 3))))))), ?_⟩
  have hT := hM.tab
  have hn12 := hT.n12
  obtain ⟨t, dx, as, m1, m2, m3, _⟩ := hM
  -- found
  refine fun d nd => ?_
  have nD : ∀ {b : Addr} {o : HO}, H b = some o → b ≠ d := fun e => ne_of_none e nd
  refine ⟨_, rfl, _, rfl, by show 2 ≤ sizeLine; decide, fun k0 nk0 => ?_⟩
  refine ⟨by show 0 ≤ sizeLine; decide, fun r0 nr0 => ?_⟩
  have dk : d ≠ k0 := fun z => by rw [← z, upd_same] at nk0; cases nk0
  have kr : k0 ≠ r0 := fun z => by rw [← z, upd_same] at nr0; cases nr0
  have dr : d ≠ r0 := fun z => by rw [← z, upd_ne dk, upd_same] at nr0; cases nr0
  refine ⟨by rw [upd_ne dr, upd_ne dk, upd_same], k0, kk a b, .ref r0, rfl, by rw [upd_ne kr, upd_same] <;> rfl, ?_⟩
  -- waiting
  refine ⟨_, rfl, _, rfl, by show 2 ≤ sizeLine; decide, fun w0 nw0 => ?_⟩
  refine ⟨by show 1 ≤ sizeLine; decide, fun wl nwl => ?_⟩
  have sA : Same H (upd H d (.dT [])) := Same.new nd
  have sB := sA.trans (Same.new (o := .tup [vi a, vi b]) nk0)
  have sC := sB.trans (Same.new (o := .tup []) nr0)
  -- the heap at the loop's start
  obtain ⟨H5, e5⟩ : ∃ H5, H5 = upd (upd (upd (upd (upd (upd H d (.dT [])) k0 (.tup [vi a, vi b])) r0 (.tup [])) d (.dT [(kk a b, .ref r0)])) w0 (.tup [vi a, vi b])) wl (.lst [.ref w0]) := ⟨_, rfl⟩
  have n1 : ∀ {x : Addr} {o : HO}, H x = some o → x ≠ w0 ∧ x ≠ wl := fun {x o} e => by
    have e1 : upd (upd (upd (upd H d (.dT [])) k0 (.tup [vi a, vi b])) r0 (.tup [])) d (.dT [(kk a b, .ref r0)]) x = some o := (upd_ne (nD e)).trans (sC _ _ e)
    exact ⟨ne_of_none e1 nw0, ne_of_none ((upd_ne (ne_of_none e1 nw0)).trans e1) nwl⟩
  have dw0 : d ≠ w0 := fun z => by rw [← z, upd_same] at nw0; cases nw0
  have rw0 : r0 ≠ w0 := fun z => by rw [← z, upd_ne (Ne.symm dr), upd_same] at nw0; cases nw0
  have dwl : d ≠ wl := fun z => by rw [← z, upd_ne dw0, upd_same] at nwl; cases nwl
  have rwl : r0 ≠ wl := fun z => by rw [← z, upd_ne rw0, upd_ne (Ne.symm dr), upd_same] at nwl; cases nwl
  have w0l : w0 ≠ wl := fun z => by rw [← z, upd_same] at nwl; cases nwl
  have wlH : H wl = none := by
    cases z : H wl with
    | none => rfl
    | some o => exact absurd rfl (n1 z).2
  have s5 : Same H H5 := fun x o e => by
    rw [e5, upd_ne (n1 e).2, upd_ne (n1 e).1, upd_ne (nD e)]
    exact sC _ _ e
  have hd5 : H5 d = some (.dT (kP [(a, b, [])] [r0])) := by rw [e5, upd_ne dwl, upd_ne dw0, upd_same] <;> rfl
  have hw5 : H5 wl = some (.lst ([w0].map V.ref)) := by rw [e5, upd_same] <;> rfl
  have at5 : AtPR H5 [(a, b, [])] [r0] [w0] := by
    refine ⟨rfl, rfl, fun i p r e1 e2 => ?_, fun i p r e1 e2 => ?_⟩
    · cases i with
      | zero =>
        cases e1
        cases e2
        rw [e5, upd_ne rwl, upd_ne rw0, upd_ne (Ne.symm dr), upd_same] <;> rfl
      | succ i => simp at e1
    · cases i with
      | zero =>
        cases e1
        cases e2
        rw [e5, upd_ne w0l, upd_same]
      | succ i => simp at e1
  have in5 : PairsIn T n a b [(a, b, [])] := ⟨List.pairwise_singleton _ _, List.mem_cons_self .., fun p hp => by rw [List.mem_singleton.mp hp]; exact ⟨ha, hb⟩, fun p hp => by rw [List.mem_singleton.mp hp]; exact ⟨fun x hx => (List.not_mem_nil hx).elim, rfl, rfl, Nat.zero_le _⟩⟩
  rw [← e5]
  clear e5 nw0 nwl nk0 nr0 sA sB sC
  -- at = 0; the while
  refine while_by (fun σ H' => ∃ (P : List PR) (R W : List Addr) (j : Nat) (o6 o7 o8 o9 : Option V), σ = [some (.ref m), some (vi a), some (vi b), some (.ref d), some (.ref wl), some (vi j), o6, o7, o8, o9] ∧ Same H H' ∧
      H' d = some (.dT (kP P R)) ∧ H' wl = some (.lst (W.map V.ref)) ∧ AtPR H' P R W ∧ PairsIn T n a b P ∧ j ≤ P.length ∧ ∀ (i : Nat) (p : PR), i < j → P[i]? = some p → ∀ x, x < T.length → (stp T x p.1, stp T x p.2.1) ∈ prs P)
    (fun σ _ => ix145 σ[5]?) ⟨[(a, b, [])], [r0], [w0], 0, none, none, none, none, rfl, s5, hd5, hw5, at5, in5, Nat.zero_le _, fun i p hi => absurd hi (Nat.not_lt_zero _)⟩ ?_ ?_
  rotate_left
  · rintro σ H' Q1 Q2 imp ⟨v, hv, v2, hv2, p, n0, e1, h1, i, j, e2, e3, k, e4, q1⟩
    exact ⟨v, hv, v2, hv2, p, n0, e1, h1, i, j, e2, e3, k, e4, imp _ _ q1⟩
  rintro σ H' ⟨P, R, W, j, o6, o7, o8, o9, rfl, sH, hD, hW, hA, hI, hj, hC⟩
  have hP := hI.len hn12
  have eWl : (((W.map V.ref).length : Nat) : Int) = (P.length : Int) := by rw [List.length_map, hA.lw]
  refine ⟨_, rfl, _, rfl, wl, _, rfl, .inl (SqL.of hW), _, _, rfl, rfl, _, rfl, ?_⟩
  by_cases hlt : j < P.length
  · refine iteD (by rw [eWl]; omega) ?_
    obtain ⟨⟨x, y, u⟩, hp⟩ : ∃ p, P[j]? = some p := ⟨P[j], List.getElem?_eq_getElem hlt⟩
    obtain ⟨wj, hwj⟩ : ∃ z, W[j]? = some z := ⟨W[j]'(by rw [← hA.lw]; exact hlt), List.getElem?_eq_getElem _⟩
    obtain ⟨rj, hrj⟩ : ∃ z, R[j]? = some z := ⟨R[j]'(by rw [← hA.lr]; exact hlt), List.getElem?_eq_getElem _⟩
    have hpj := hA.pair j _ _ hp hwj
    have hpm := List.mem_of_getElem? hp
    have hxy : x < n ∧ y < n := hI.lt _ hpm
    refine ⟨_, rfl, _, rfl, wl, _, _, .ref wj, rfl, rfl, SqL.of hW, atI_nat (by rw [List.getElem?_map, hwj] <;> rfl), ?_⟩
    refine ⟨_, rfl, _, _, rfl, rfl, ?_⟩
    -- each deed
    refine ⟨_, rfl, m, CM, dx, _, _, rfl, sH _ _ m1, M.cl, M.tables, rfl, t, as.map V.ref, rfl, SqT.of (sH _ _ m2),
      for_it (walk_enumT (xs := as.map V.ref)) (fun i σ H2 => ∃ (P2 : List PR) (R2 W2 : List Addr) (o7 o8 o9 : Option V), σ = [some (.ref m), some (vi a), some (vi b), some (.ref d), some (.ref wl), some (.int ((j : Int) + 1)), some (.ref wj), o7, o8, o9] ∧ Same H H2 ∧
        H2 wj = some (.tup [vi x, vi y]) ∧ H2 d = some (.dT (kP P2 R2)) ∧ H2 wl = some (.lst (W2.map V.ref)) ∧ AtPR H2 P2 R2 W2 ∧ PairsIn T n a b P2 ∧ P2[j]? = some (x, y, u) ∧ R2[j]? = some rj ∧ (∀ q ∈ prs P, q ∈ prs P2) ∧
        (∀ (i : Nat) (p : PR), i < j → P2[i]? = some p → P[i]? = some p) ∧ ∀ z, z < i → (stp T z x, stp T z y) ∈ prs P2)
      ⟨P, R, W, o7, o8, o9, rfl, sH, hpj, hD, hW, hA, hI, hp, hrj, fun _ h => h, fun _ _ _ h => h, fun z hz => absurd hz (Nat.not_lt_zero _)⟩
      (fun i σ H2 _ ⟨_, _, _, _, _, _, _, sH2, _⟩ => SqT.of (sH2 _ _ m2)) ?_ ?_⟩
    · rintro i v σ H2 H2' hi ⟨P2, R2, W2, o7, o8, o9, rfl, sH2, hwj2, hD2, hW2, hA2, hI2, hp2, hr2, sub2, old2, done2⟩ ⟨tp, y1, y2, rfl, ntp, rfl, ey1, ey2⟩
      obtain rfl : V.int (i : Nat) = y1 := Option.some.inj ey1
      have hi2 : i < T.length := by rw [List.length_map, m3.1] at hi; exact hi
      obtain ⟨p, r, e1, f1, g1⟩ := m3.get hi2
      obtain rfl : V.ref p = y2 := by
        replace ey2 : (as.map V.ref)[i]? = some y2 := ey2
        rw [List.getElem?_map, e1] at ey2
        exact Option.some.inj ey2
      have sN : Same H2 (upd H2 tp (.tup [.int (i : Nat), .ref p])) := Same.new ntp
      obtain ⟨hx1, hx2⟩ := hT.at f1 hxy.1
      obtain ⟨hy1, hy2⟩ := hT.at f1 hxy.2
      refine ⟨tp, _, rfl, SqT.of upd_same, rfl, _, _, rfl, _, _, rfl, rfl, ?_⟩
      have gp := sN _ _ (sH2 _ _ g1)
      have gw := sN _ _ hwj2
      -- after
      refine ⟨_, rfl, _, rfl, wj, _, _, _, rfl, rfl, SqT.of gw, at0 rfl, p, _, _, _, rfl, rfl, SqT.of gp, atI_nat hx1, ?_⟩
      refine ⟨_, rfl, _, rfl, wj, _, _, _, rfl, rfl, SqT.of gw, at1 rfl, p, _, _, _, rfl, rfl, SqT.of gp, atI_nat hy1, ?_⟩
      refine ⟨by show 2 ≤ sizeLine; decide, fun af naf => ?_⟩
      obtain ⟨H3, e3⟩ : ∃ H3, H3 = upd (upd H2 tp (.tup [.int (i : Nat), .ref p])) af (.tup [vi (stp T i x), vi (stp T i y)]) := ⟨_, rfl⟩
      rw [← e3]
      have sN3 : Same H2 H3 := by rw [e3]; exact sN.trans (Same.new naf)
      have haf : H3 af = some (.tup ((kk (stp T i x) (stp T i y)).map kV)) := by rw [e3, upd_same] <;> rfl
      have hD3 := sN3 _ _ hD2
      refine ⟨_, rfl, _, rfl, d, _, rfl, DGet.t hD3 haf, _, rfl, ?_⟩
      have hA3 := hA2.keep fun b xs e => sN3 _ _ e
      by_cases hin : (stp T i x, stp T i y) ∈ prs P2
      · have hs : (valV (kP P2 R2) (kk (stp T i x) (stp T i y))).isSome = true := by
          obtain ⟨q, hq, eq⟩ := List.mem_map.mp hin
          obtain ⟨k, hk⟩ := List.mem_iff_getElem?.mp hq
          have hk1 := (List.getElem?_eq_some_iff.mp hk).1
          have hk2 : R2[k]? = some (R2[k]'(by rw [← hA2.lr]; exact hk1)) := List.getElem?_eq_getElem _
          injection eq with q1 q2
          rw [← q1, ← q2, kP_some hI2.nd hk hk2] <;> rfl
        rw [hs]
        refine iteF ⟨P2, R2, W2, _, _, _, rfl, sH2.trans sN3, sN3 _ _ hwj2, hD3, sN3 _ _ hW2, hA3, hI2, hp2, hr2, sub2, old2, fun z hz => ?_⟩
        rcases Nat.lt_succ_iff_lt_or_eq.mp hz with h | h
        · exact done2 z h
        · rw [h]
          exact hin
      · rw [kP_none hin]
        refine iteT ?_
        have hP2 := hI2.len hn12
        have hrow := hA3.row j _ _ hp2 hr2
        have hwj3 : H3 wj = some (.tup ((kk x y).map kV)) := sN3 _ _ hwj2
        refine ⟨_, rfl, _, rfl, d, .ref rj, rfl, by rw [← kP_some hI2.nd hp2 hr2]; exact DGet.t hD3 hwj3, ?_⟩
        refine ⟨_, rfl, by show 1 ≤ sizeLine; decide, fun dt ndt => ?_⟩
        have sN4 : Same H3 (upd H3 dt (.tup [.int (i : Nat)])) := Same.new ndt
        have hul : u.length ≤ P2.length := (hI2.row _ (List.mem_of_getElem? hp2)).2.2.2
        refine catA_of (SqT.of (sN4 _ _ hrow)) (sN4 _ _ hrow) upd_same (line_of (by rw [List.length_map]; simp only [List.length_singleton]; omega)) (by intro z; cases z) fun rr H4 s4 hrr => ?_
        have sN5 := sN4.trans s4
        have hD4 := sN5 _ _ hD3
        have haf4 := sN5 _ _ haf
        refine ⟨_, rfl, _, rfl, d, _, rfl, DPut.t hD4 haf4 (small1000 (by rw [kP_length hA2.lr]; omega)), ?_⟩
        rw [putK_new _ (kP_none hin), ← kP_snoc hA2.lr (stp T i x, stp T i y, u ++ [i]) rr]
        have kD : ∀ b xs, H4 b = some (.tup xs) → upd H4 d (.dT (kP (P2 ++ [(stp T i x, stp T i y, u ++ [i])]) (R2 ++ [rr]))) b = some (.tup xs) := fun b xs e => (upd_ne (ne_of e hD4 (by intro z; cases z))).trans e
        have hW4 : upd H4 d (.dT (kP (P2 ++ [(stp T i x, stp T i y, u ++ [i])]) (R2 ++ [rr]))) wl = some (.lst (W2.map V.ref)) := (upd_ne (Ne.symm dwl)).trans (sN5 _ _ (sN3 _ _ hW2))
        refine ⟨_, rfl, .inl ⟨rfl, _, SqL.of hW4⟩, _, rfl, wl, _, _, rfl, rfl, hW4, small1000 (by rw [List.length_map, ← hA2.lw]; omega), ?_⟩
        have kW : ∀ b xs, upd H4 d (.dT (kP (P2 ++ [(stp T i x, stp T i y, u ++ [i])]) (R2 ++ [rr]))) b = some (.tup xs) → upd (upd H4 d (.dT (kP (P2 ++ [(stp T i x, stp T i y, u ++ [i])]) (R2 ++ [rr])))) wl (.lst (W2.map V.ref ++ [.ref af])) b = some (.tup xs) := fun b xs e => (upd_ne (ne_of e hW4 (by intro z; cases z))).trans e
        have hrow2 := hI2.row _ (List.mem_of_getElem? hp2)
        refine ⟨P2 ++ [(stp T i x, stp T i y, u ++ [i])], R2 ++ [rr], W2 ++ [af], _, _, _, rfl, fun b o e => ?_, kW _ _ (kD _ _ (sN5 _ _ (sN3 _ _ hwj2))), (upd_ne dwl).trans upd_same, by rw [upd_same, List.map_append] <;> rfl, ?_, ?_, ?_, ?_, fun q hq => ?_, fun k q hk e => ?_, fun z hz => ?_⟩
        · rw [upd_ne (ne_of_none e wlH), upd_ne (nD e)]
          exact sN5 _ _ (sN3 _ _ (sH2 _ _ e))
        · refine ((hA3.keep fun b xs e => sN5 _ _ e).keep fun b xs e => kW _ _ (kD _ _ e)).snoc (kW _ _ (kD _ _ ?_)) (kW _ _ (kD _ _ haf4))
          rw [hrr]
          show some (HO.tup (iv u ++ [vi i])) = some (HO.tup ((u ++ [i]).map vi))
          rw [List.map_append] <;> rfl
        · refine ⟨?_, ?_, fun q hq => ?_, fun q hq => ?_⟩
          · unfold prs
            rw [List.map_append]
            exact List.nodup_append.mpr ⟨hI2.nd, List.pairwise_singleton _ _, fun a ha b hb e => hin (by rw [List.mem_singleton.mp hb] at e; rw [e] at ha; exact ha)⟩
          · unfold prs
            rw [List.map_append]
            exact List.mem_append_left _ hI2.mem
          · rcases List.mem_append.mp hq with hq | hq
            · exact hI2.lt q hq
            · rw [List.mem_singleton.mp hq]
              exact ⟨hx2, hy2⟩
          · rcases List.mem_append.mp hq with hq | hq
            · obtain ⟨k1, k2, k3, k4⟩ := hI2.row q hq
              exact ⟨k1, k2, k3, by rw [List.length_append]; omega⟩
            · rw [List.mem_singleton.mp hq]
              obtain ⟨k1, k2, k3, k4⟩ := hrow2
              refine ⟨fun z hz => ?_, ?_, ?_, ?_⟩
              · rcases List.mem_append.mp hz with hz | hz
                · exact k1 z hz
                · rw [List.mem_singleton.mp hz]
                  exact hi2
              · show run T (u ++ [i]) a = _
                rw [run_snoc]
                show stp T i (run T u a) = _
                rw [show run T u a = x from k2]
              · show run T (u ++ [i]) b = _
                rw [run_snoc]
                show stp T i (run T u b) = _
                rw [show run T u b = y from k3]
              · show (u ++ [i]).length ≤ _
                rw [List.length_append, List.length_append]
                simp only [List.length_singleton]
                omega
        · rw [List.getElem?_append_left (List.getElem?_eq_some_iff.mp hp2).1]
          exact hp2
        · rw [List.getElem?_append_left (List.getElem?_eq_some_iff.mp hr2).1]
          exact hr2
        · unfold prs
          rw [List.map_append]
          exact List.mem_append_left _ (sub2 q hq)
        · have hk2 : k < P2.length := by have := (List.getElem?_eq_some_iff.mp hp2).1; omega
          rw [List.getElem?_append_left hk2] at e
          exact old2 k q hk e
        · unfold prs
          rw [List.map_append]
          rcases Nat.lt_succ_iff_lt_or_eq.mp hz with h | h
          · exact List.mem_append_left _ (done2 z h)
          · rw [h]
            exact List.mem_append_right _ (List.mem_singleton.mpr rfl)
    · rintro σ H2 ⟨P2, R2, W2, o7, o8, o9, rfl, sH2, hwj2, hD2, hW2, hA2, hI2, hp2, hr2, sub2, old2, done2⟩
      refine ⟨⟨P2, R2, W2, j + 1, _, _, _, _, rfl, sH2, hD2, hW2, hA2, hI2, (List.getElem?_eq_some_iff.mp hp2).1, fun i p hi e z hz => ?_⟩, ?_⟩
      · rcases Nat.lt_succ_iff_lt_or_eq.mp hi with h | h
        · exact sub2 _ (hC i p h (old2 i p h e) z hz)
        · subst h
          rw [hp2] at e
          cases e
          exact done2 z (by rw [List.length_map, m3.1]; exact hz)
      · show 145 - ((j : Int) + 1).toNat < 145 - (j : Int).toNat
        omega
  · refine iteDn (by rw [eWl]; omega) ?_
    refine ⟨_, rfl, q _ d P R W sH nd hD hA ⟨hI, fun p hp z hz => ?_⟩⟩
    obtain ⟨q, hq, rfl⟩ := List.mem_map.mp hp
    obtain ⟨i, hi⟩ := List.mem_iff_getElem?.mp hq
    have := (List.getElem?_eq_some_iff.mp hi).1
    exact hC i q (by omega) hi z hz
end
end K35
set_option maxHeartbeats 4000000
/-! ends_of, join. -/
namespace K35
open PySem PySem.Spec PyProof.Rows L2
def rLenSeq (K : PySem.W.Frag) : List V → Hp → VK → Prop := fun xs H Q => ∃ p ys, xs = [.ref p] ∧ (SqL K H p ys ∨ SqT K H p ys) ∧ Q (.int ys.length) H
/-- a row leads from a to t, and all that do lead h to one state -/
structure Ends (T : List (List Nat)) (a h t z : Nat) : Prop where
  ex : ∃ u, (∀ d ∈ u, d < T.length) ∧ run T u a = t
  un : ∀ u, (∀ d ∈ u, d < T.length) → run T u a = t → run T u h = z
theorem kP_at : ∀ {P : List PR} {R : List Addr} {i : Nat} {k : List Key} {v : V}, (kP P R)[i]? = some (k, v) → ∃ p r, P[i]? = some p ∧ R[i]? = some r ∧ k = kk p.1 p.2.1 ∧ v = .ref r
  | [], _, i, k, v, h => by simp [kP] at h
  | q :: P, [], i, k, v, h => by simp [kP] at h
  | q :: P, s :: R, 0, k, v, h => by
    have h : some (kk q.1 q.2.1, V.ref s) = some (k, v) := h
    injection h with h
    injection h with h1 h2
    exact ⟨q, s, rfl, rfl, h1.symm, h2.symm⟩
  | q :: P, s :: R, i + 1, k, v, h => kP_at (P := P) (R := R) (i := i) h
/-- with such ends exactly one pair ends so -/
theorem ends_one {T : List (List Nat)} {n a h t z : Nat} {P : List PR} (hP : PairsOk T n a h P) (e : Ends T a h t z) : (P.filter fun p => decide (p.1 = t)).length = 1 ∧ ∀ p ∈ P, p.1 = t → p.2.1 = z := by
  have hz : ∀ p ∈ P, p.1 = t → p.2.1 = z := fun p hp hpt => by
    obtain ⟨k1, k2, k3, _⟩ := hP.inn.row p hp
    rw [← k3]
    exact e.un _ k1 (k2.trans hpt)
  refine ⟨?_, hz⟩
  obtain ⟨u, hu, hut⟩ := e.ex
  have hm := hP.run hP.inn.mem hu
  rw [hut, e.un u hu hut] at hm
  obtain ⟨p, hp, ep⟩ := List.mem_map.mp hm
  injection ep with ep1 ep2
  have m1 : p ∈ P.filter fun p => decide (p.1 = t) := List.mem_filter.mpr ⟨hp, decide_eq_true ep1⟩
  have nd : (prs (P.filter fun p => decide (p.1 = t))).Nodup := hP.inn.nd.sublist ((List.filter_sublist (l := P)).map _)
  have all : ∀ q ∈ prs (P.filter fun p => decide (p.1 = t)), q = (t, z) := fun q hq => by
    obtain ⟨r, hr, rfl⟩ := List.mem_map.mp hq
    obtain ⟨r1, r2⟩ := List.mem_filter.mp hr
    have r2 : r.1 = t := of_decide_eq_true r2
    exact Prod.ext r2 (hz r r1 r2)
  have l1 : (P.filter fun p => decide (p.1 = t)).length = (prs (P.filter fun p => decide (p.1 = t))).length := by
    unfold prs
    rw [List.length_map]
  rw [l1]
  match hq : prs (P.filter fun p => decide (p.1 = t)), nd, all with
  | [], _, _ =>
    have : (P.filter fun p => decide (p.1 = t)) = [] := List.map_eq_nil_iff.mp hq
    rw [this] at m1
    cases m1
  | [q], _, _ => rfl
  | q :: r :: l, nd, all => exact absurd ((all q (List.mem_cons_self ..)).trans (all r (List.mem_cons_of_mem _ (List.mem_cons_self ..))).symm) (fun e => (List.nodup_cons.mp nd).1 (by rw [e]; exact List.mem_cons_self ..))
section
variable {w : World} {K : PySem.W.Frag} {mg : Str → Option Value} {base : Heap}
def spEnds (CM : Addr) : Sp := fun vs H Q _ => ∃ (m : Addr) (T : List (List Nat)) (n a h t z : Nat), vs = [.ref m, vi a, vi h, vi t] ∧ MachOk CM H m T n ∧ a < n ∧ h < n ∧ Ends T a h t z ∧
  ∀ H' l tp lv rw, Same H H' → H l = none → H' l = some (.lst [.ref tp]) → H' tp = some (.tup [lv, rw, vi z]) → Q (.ref l) H'
abbrev N_ends_of : List Str := ["machine", "archive", "here", "there", "rows", "found", "pair", "row"]
theorem sc_ends_of : FnScope N_ends_of ["machine", "archive", "here", "there"] (defScope s_ends_of) := ⟨rfl, rfl, rfl, by decide +kernel, rfl, by decide +kernel, by decide +kernel⟩
theorem ok_ends_of {CM : Addr} {f : Addr} {fd : FuncData} (F : Fd K "ends_of" "ends_of" s_ends_of f fd) (B : Bu mg) (C_pair_rows : Cal Pg w K mg base 1 "pair_rows" ["machine", "one", "other"] (spPairRows CM)) :
    FnOk Pg w K mg base (L2.CX Pg w) 2 f fd ["machine", "archive", "here", "there"] (spEnds CM) := by
  refine okN F sc_ends_of (fun vs H Q E ⟨m, T, n, a, h, t, z, e, _⟩ => by rw [e] <;> rfl) fun cdv A outer s0 H vs Q E hr ⟨m, T, n, a, h, t, z, ev, hM, ha, hh, he, q⟩ => ?_
  subst ev
  refine ⟨_, (pss_cons (ps_set (i := 4) sc_ends_of.nd rfl (Or.inl rfl) (pe_cal C_pair_rows hr (by rfl) passL (pa_cons (pv 0) (pa_cons (pv 1) (pa_cons (pv 2) pa_nil)))))
  (pss_cons (ps_lock (ps_setLc (i := 5) (own := [("pair", 6), ("row", 7)]) (g := gTup K 2 (gCons (gName 6) (gCons (gName 7) gNil))) rfl sc_ends_of.nd rfl rfl (sw_true rfl rfl rfl (by decide +kernel)) (pi_itemsT (pv 4)) (blkOk_by (own := [("pair", 6), ("row", 7)]) (N := N_ends_of) (sc := defScope s_ends_of) (by decide +kernel)) (fun _ _ _ _ _ => (pg_tup rfl (pgs_cons (pg_name (i := 6) sc_ends_of.nd rfl (Or.inl rfl)) (pgs_cons (pg_name (i := 7) sc_ends_of.nd rfl (Or.inl rfl)) pgs_nil)))) (fun _ _ _ _ _ => (pts_one (pt_cmpR op_eq (pe_ix (r := rIxT K) ix_tup (pv 6) pe_int (fun _ _ => rfl)) (pv 3) (nomark _)))) (fun _ _ _ _ _ => (pe_tup (pa_cons (pe_callB (r := rLenSeq K) call_len_seq (by rfl) B.len (by decide +kernel) (pa_cons (pv 7) pa_nil)) (pa_cons (pv 7) (pa_cons (pe_ix (r := rIxT K) ix_tup (pv 6) pe_int (fun _ _ => rfl)) pa_nil)))))))
  (pss_one (ps_ret (pe_callB call_sorted1 (by rfl) B.sorted (by decide +kernel) (pa_cons (pv 5) pa_nil)))))), ?_⟩
  refine ⟨_, rfl, _, rfl, _, rfl, m, T, n, a, h, rfl, hM, ha, hh, fun H1 d P R W s1 nd hd hA hP => ?_⟩
  obtain ⟨one, val⟩ := ends_one hP he
  refine ⟨d, _, hd, True.intro, fun od => ?_⟩
  obtain ⟨H2, e2⟩ : ∃ H2, H2 = upd H1 d (.frz od (.dT (kP P R))) := ⟨_, rfl⟩
  rw [← e2]
  have nD : ∀ {b : Addr} {o : HO}, H b = some o → b ≠ d := fun e => ne_of_none e nd
  have s2 : Same H H2 := fun b o e => by rw [e2, upd_ne (nD e)]; exact s1 _ _ e
  have hd2 : H2 d = some (.frz od (.dT (kP P R))) := by rw [e2]; exact upd_same
  have hA2 : AtPR H2 P R W := hA.keep fun b xs e => by rw [e2, upd_ne (ne_of e hd (by intro z; cases z))]; exact e
  refine ⟨_, rfl, d, od, kP P R, rfl, hd2, fun D hD => ?_⟩
  have hDH : H D = none := s2.free hD
  have dD : d ≠ D := ne_of_none hd2 hD
  refine lc_it (walk_itemsT (d := d) (o := od) (kvs := kP P R)) (fun i H3 => ∃ acc : List Addr, Same H H3 ∧ H3 d = some (.frz od (.dT (kP P R))) ∧ AtPR H3 P R W ∧ H3 D = some (.lst (acc.map V.ref)) ∧
      acc.length = ((P.take i).filter fun p => decide (p.1 = t)).length ∧ ∀ tp ∈ acc, ∃ lv rw, H3 tp = some (.tup [lv, rw, vi z]))
    ⟨[], s2.trans (Same.new hD), (upd_ne dD).trans hd2, hA2.keep fun b xs e => (Same.new hD) _ _ e, upd_same, rfl, fun _ h => by cases h⟩ (fun i H3 _ ⟨_, _, h, _⟩ => h) ?_ ?_
  · rintro i x H3 H3' hi ⟨acc, s3, hd3, hA3, hD3, hl, hz⟩ ⟨Tp, qa, k, v, hk, hq, rfl, nT, rfl⟩
    obtain ⟨⟨px, py, u⟩, r, hp, hr2, rfl, rfl⟩ := kP_at hk
    have sN : Same H3 (upd H3 Tp (.tup [.ref qa, .ref r])) := Same.new nT
    have hrow := sN _ _ (hA3.row i _ _ hp hr2)
    have hP144 := hP.inn.len hM.tab.n12
    have hiP : i < P.length := (List.getElem?_eq_some_iff.mp hp).1
    have hacc : acc.length ≤ 144 := by
      rw [hl]
      refine Nat.le_trans (List.length_filter_le _ _) ?_
      rw [List.length_take]
      omega
    have tk : P.take (i + 1) = P.take i ++ [(px, py, u)] := by rw [List.take_add_one, hp] <;> rfl
    refine ⟨Tp, _, rfl, SqT.of upd_same, rfl, _, _, rfl, _, _, rfl, rfl, rfl, ?_⟩
    refine ⟨_, rfl, qa, _, _, _, rfl, rfl, SqT.of (sN _ _ hq), at0 rfl, _, rfl, rfl, _, rfl, ?_⟩
    by_cases hc : px = t
    · subst hc
      refine iteD (show vi px = vi px from rfl) ?_
      have hpy : py = z := val _ (List.mem_of_getElem? hp) rfl
      subst hpy
      refine ⟨_, rfl, r, _, rfl, .inr (SqT.of hrow), _, rfl, _, rfl, qa, _, _, _, rfl, rfl, SqT.of (sN _ _ hq), at1 rfl, ?_⟩
      refine ⟨by show 3 ≤ sizeLine; decide, fun tp ntp => ?_⟩
      have sN2 := sN.trans (Same.new (o := .tup [.int ((iv u).length : Nat), .ref r, vi py]) ntp)
      refine ⟨_, sN2 _ _ hD3, small1000 (by rw [List.length_map]; omega), acc ++ [tp], fun b o e => ?_, ?_, ?_, ?_, ?_, fun q hq => ?_⟩
      · rw [upd_ne (ne_of_none e hDH)]
        exact sN2 _ _ (s3 _ _ e)
      · rw [upd_ne dD]
        exact sN2 _ _ hd3
      · exact hA3.keep fun b xs e => by rw [upd_ne (ne_of e hD3 (by intro z; cases z))]; exact sN2 _ _ e
      · rw [upd_same, List.map_append] <;> rfl
      · rw [tk, List.filter_append, List.length_append, List.length_append, hl, List.filter_cons, if_pos (by simp)] <;> rfl
      · have nq : q ≠ D := by
          rcases List.mem_append.mp hq with hq | hq
          · obtain ⟨lv, rw', e⟩ := hz q hq
            exact ne_of e hD3 (by intro z; cases z)
          · rw [List.mem_singleton.mp hq]
            exact ne_of (sN2 _ _ hD3 |> fun _ => (upd_same : upd (upd H3 Tp (.tup [.ref qa, .ref r])) tp (.tup [.int ((iv u).length : Nat), .ref r, vi py]) tp = _)) (sN2 _ _ hD3) (by intro z; cases z)
        rcases List.mem_append.mp hq with hq | hq
        · obtain ⟨lv, rw', e⟩ := hz q hq
          exact ⟨lv, rw', by rw [upd_ne nq]; exact sN2 _ _ e⟩
        · rw [List.mem_singleton.mp hq] at nq ⊢
          exact ⟨_, _, by rw [upd_ne nq]; exact upd_same⟩
    · refine iteDn (show ¬ vi px = vi t from fun e => hc (by injection e with e; omega)) ⟨acc, s3.trans sN, sN _ _ hd3, hA3.keep fun b xs e => sN _ _ e, sN _ _ hD3, ?_, fun q hq => ?_⟩
      · rw [tk, List.filter_append, List.length_append, ← hl, List.filter_cons, if_neg (by simpa using hc)] <;> rfl
      · obtain ⟨lv, rw', e⟩ := hz q hq
        exact ⟨lv, rw', sN _ _ e⟩
  · rintro H3 ⟨acc, s3, hd3, hA3, hD3, hl, hz⟩
    rw [kP_length hA3.lr, List.take_length, one] at hl
    obtain ⟨tp, rfl⟩ : ∃ tp, acc = [tp] := by
      match acc, hl with
      | [tp], _ => exact ⟨tp, rfl⟩
    obtain ⟨lv, rw', htp⟩ := hz tp (List.mem_cons_self ..)
    refine ⟨hd3, _, rfl, D, _, rfl, SqL.of ((upd_ne (Ne.symm dD)).trans hD3), by show 1 ≤ 1; decide, fun l hl => ?_⟩
    have s4 : Same H (upd H3 d (.dT (kP P R))) := fun b o e => (upd_ne (nD e)).trans (s3 _ _ e)
    have htp2 : upd H3 d (.dT (kP P R)) tp = some (.tup [lv, rw', vi z]) := (upd_ne (ne_of htp hd3 (by intro z; cases z))).trans htp
    exact q _ l tp lv rw' (s4.trans (Same.new hl)) (s4.free hl) upd_same ((Same.new hl) _ _ htp2)
/-! ### join -/
def spJoin (CM : Addr) : Sp := fun vs H Q _ => ∃ (m : Addr) (T : List (List Nat)) (n a h t z : Nat), vs = [.ref m, vi a, vi h, vi t] ∧ MachOk CM H m T n ∧ a < n ∧ h < n ∧ t < n ∧ Ends T a h t z ∧ ∀ H', Same H H' → Q (vi z) H'
theorem isBel_lt {x n : Nat} (h : x < n) : isBel (n : Int) (vi x) = true := by
  show (decide ((0 : Int) ≤ x) && decide ((x : Int) < n)) = true
  rw [decide_eq_true (by omega), decide_eq_true (by omega)] <;> rfl
/-- need_state of a state -/
theorem need_ok {CM CS : Addr} {H : Hp} {m : Addr} {T : List (List Nat)} {n s : Nat} {Q : VK} {E : XK} (hM : MachOk CM H m T n) (hs : s < n) (q : Q (vi s) H) : spNeedState K CM CS [.ref m, vi s] H Q E := by
  obtain ⟨t, dx, as, m1, _⟩ := hM
  exact ⟨m, t, dx, T.length, n, vi s, rfl, m1, .int _, fun _ => q, fun z => by rw [isBel_lt hs] at z; cases z⟩
abbrev N_join : List Str := ["machine", "archive", "here", "there", "ends"]
theorem sc_join : FnScope N_join ["machine", "archive", "here", "there"] (defScope s_join) := ⟨rfl, rfl, rfl, by decide +kernel, rfl, by decide +kernel, by decide +kernel⟩
theorem ok_join {CM CS : Addr} {f : Addr} {fd : FuncData} (F : Fd K "join" "join" s_join f fd) (B : Bu mg) (C_need_state : Cal Pg w K mg base 4 "need_state" ["machine", "state"] (spNeedState K CM CS)) (C_ends_of : Cal Pg w K mg base 2 "ends_of" ["machine", "archive", "here", "there"] (spEnds CM)) :
    FnOk Pg w K mg base (L2.CX Pg w) 5 f fd ["machine", "archive", "here", "there"] (spJoin CM) := by
  refine okN F sc_join (fun vs H Q E ⟨m, T, n, a, h, t, z, e, _⟩ => by rw [e] <;> rfl) fun cdv A outer s0 H vs Q E hr ⟨m, T, n, a, h, t, z, ev, hM, ha, hh, ht, he, q⟩ => ?_
  subst ev
  refine ⟨_, (pss_cons (ps_expr (pe_cal C_need_state hr (by rfl) passL (pa_cons (pv 0) (pa_cons (pv 1) pa_nil))))
  (pss_cons (ps_expr (pe_cal C_need_state hr (by rfl) passL (pa_cons (pv 0) (pa_cons (pv 2) pa_nil))))
  (pss_cons (ps_expr (pe_cal C_need_state hr (by rfl) passL (pa_cons (pv 0) (pa_cons (pv 3) pa_nil))))
  (pss_cons (ps_set (i := 4) sc_join.nd rfl (Or.inl rfl) (pe_cal C_ends_of (hr.mono (by decide)) (by rfl) passL (pa_cons (pv 0) (pa_cons (pv 1) (pa_cons (pv 2) (pa_cons (pv 3) pa_nil))))))
  (pss_cons (ps_if (pt_cmpR op_ne (pe_callB call_len_seq (by rfl) B.len (by decide +kernel) (pa_cons (pv 4) pa_nil)) pe_int (nomark _)) (pss_one ps_never) pss_nil)
  (pss_one (ps_ret (pe_ix ix_tup (pe_ix ix_list (pv 4) pe_int (fun _ _ => rfl)) pe_int (fun _ _ => rfl))))))))), ?_⟩
  refine ⟨_, rfl, _, rfl, need_ok hM ha ?_⟩
  refine ⟨_, rfl, _, rfl, need_ok hM hh ?_⟩
  refine ⟨_, rfl, _, rfl, need_ok hM ht ?_⟩
  refine ⟨_, rfl, _, rfl, _, rfl, _, rfl, m, T, n, a, h, t, z, rfl, hM, ha, hh, he, fun H1 l tp lv rw' s1 nl hl htp => ?_⟩
  refine ⟨_, rfl, l, _, rfl, .inl (SqL.of hl), rfl, _, rfl, ?_⟩
  refine iteF ?_
  exact ⟨_, rfl, l, _, _, _, rfl, rfl, SqL.of hl, at0 rfl, tp, _, _, _, rfl, rfl, SqT.of htp, at_of (j := 2) rfl rfl, q _ s1⟩
end
end K35
set_option maxHeartbeats 4000000
/-! commuting_paper, need_commuting, put_in. -/
namespace K35
open PySem PySem.Spec PyProof.Rows L2
/-- all deeds commute where s leads -/
def Com (T : List (List Nat)) (s : Nat) : Prop := ∃ S : Nat → Prop, S s ∧ Closed T S ∧ ∀ x, S x → ∀ d e, d < T.length → e < T.length → stp T e (stp T d x) = stp T d (stp T e x)
/-- two deeds that do not, at 0 -/
def Cross (T : List (List Nat)) (s : Nat) : Prop := s = 0 ∧ T.length = 2 ∧ stp T 1 (stp T 0 0) ≠ stp T 0 (stp T 1 0)
theorem zero_first : ∀ {l : List Nat}, l.Pairwise (· ≤ ·) → 0 ∈ l → l[0]? = some 0
  | [], _, h => by cases h
  | x :: l, hp, h => by
    rcases List.mem_cons.mp h with e | e
    · rw [← e] <;> rfl
    · have := (List.pairwise_cons.mp hp).1 0 e
      have e2 : x = 0 := by omega
      rw [e2] <;> rfl
section
variable {w : World} {K : PySem.W.Frag} {mg : Str → Option Value} {base : Heap}
def spPaper (CM : Addr) : Sp := fun vs H Q _ => ∃ (m : Addr) (T : List (List Nat)) (n s : Nat), vs = [.ref m, vi s] ∧ MachOk CM H m T n ∧ s < n ∧
  ((Com T s ∧ ∀ H', Same H H' → Q .non H') ∨ (Cross T s ∧ ∀ H' p, Same H H' → H' p = some (.tup [vi 0, vi 0, vi 1]) → Q (.ref p) H'))
abbrev N_commuting_paper : List Str := ["machine", "state", "here", "one", "first", "other", "second"]
theorem sc_commuting_paper : FnScope N_commuting_paper ["machine", "state"] (defScope s_commuting_paper) := ⟨rfl, rfl, rfl, by decide +kernel, rfl, by decide +kernel, by decide +kernel⟩
theorem ok_commuting_paper {CM : Addr} {f : Addr} {fd : FuncData} (F : Fd K "commuting_paper" "commuting_paper" s_commuting_paper f fd) (B : Bu mg) (M : MF K CM) (C_orbit : Cal Pg w K mg base 5 "orbit" ["machine", "state"] (spOrbit CM)) :
    FnOk Pg w K mg base (L2.CX Pg w) 6 f fd ["machine", "state"] (spPaper CM) := by
  refine okN F sc_commuting_paper (fun vs H Q E ⟨m, T, n, s, e, _⟩ => by rw [e] <;> rfl) fun cdv A outer s0 H vs Q E hr ⟨m, T, n, s, ev, hM, hs, q⟩ => ?_
  subst ev
  refine ⟨_, (pss_cons (ps_for PassesOwn.never rfl (pi_tup (pe_cal C_orbit hr (by rfl) passL (pa_cons (pv 0) (pa_cons (pv 1) pa_nil)))) (pg_name (i := 2) sc_commuting_paper.nd rfl (Or.inl rfl))
   (pss_one (ps_for PassesOwn.never rfl (pi_enumT (by rfl) B.enumerate (pa_cons (pe_fld (pv 0) rfl) pa_nil)) (pg_tup rfl (pgs_cons (pg_name (i := 3) sc_commuting_paper.nd rfl (Or.inl rfl)) (pgs_cons (pg_name (i := 4) sc_commuting_paper.nd rfl (Or.inl rfl)) pgs_nil)))
   (pss_one (ps_for PassesOwn.never rfl (pi_enumT (by rfl) B.enumerate (pa_cons (pe_fld (pv 0) rfl) pa_nil)) (pg_tup rfl (pgs_cons (pg_name (i := 5) sc_commuting_paper.nd rfl (Or.inl rfl)) (pgs_cons (pg_name (i := 6) sc_commuting_paper.nd rfl (Or.inl rfl)) pgs_nil)))
   (pss_one (ps_if (pt_cmpR op_ne (pe_ix ix_tup (pv 6) (pe_ix ix_tup (pv 4) (pv 2) (fun _ _ => rfl)) (fun _ _ => rfl)) (pe_ix ix_tup (pv 4) (pe_ix ix_tup (pv 6) (pv 2) (fun _ _ => rfl)) (fun _ _ => rfl)) (nomark _)) (pss_one (ps_ret (pe_tup (pa_cons (pv 2) (pa_cons (pv 3) (pa_cons (pv 5) pa_nil)))))) pss_nil)))))))
  (pss_one (ps_ret pe_non))), ?_⟩
  refine ⟨_, rfl, _, rfl, m, T, n, s, rfl, hM, hs, fun H1 p l s1 np hp orb srt _ => ?_⟩
  have hT := hM.tab
  obtain ⟨t, dx, as, m1, m2, m3, _⟩ := hM
  have com : Com T s → ∀ x ∈ l, ∀ d e, d < T.length → e < T.length → stp T e (stp T d x) = stp T d (stp T e x) := fun ⟨S, h0, hc, hS⟩ x hx => hS x (orb.inc S h0 hc x hx)
  have how : Com T s ∨ Cross T s := q.elim (fun h => .inl h.1) fun h => .inr h.1
  have table : ∀ {i : Nat} {H2 : Hp} {v : V}, Same H H2 → i < (as.map V.ref).length → (as.map V.ref)[i]? = some v → ∃ b r, v = .ref b ∧ T[i]? = some r ∧ H2 b = some (.tup (iv r)) ∧ i < T.length := fun {i H2 v} s2 hi hv => by
    have hi2 : i < T.length := by rw [List.length_map, m3.1] at hi; exact hi
    obtain ⟨b, r, e1, f1, g1⟩ := m3.get hi2
    rw [List.getElem?_map, e1] at hv
    exact ⟨b, r, (Option.some.inj hv).symm, f1, s2 _ _ g1, hi2⟩
  refine ⟨p, rfl, ⟨_, SqT.of hp⟩, for_it (walk_tup (xs := iv l)) (fun i σ H2 => ∃ o2 o3 o4 o5 o6, σ = [some (.ref m), some (vi s), o2, o3, o4, o5, o6] ∧ Same H1 H2 ∧ (Com T s ∨ i = 0)) ⟨_, _, _, _, _, rfl, Same.refl _, .inr rfl⟩ (fun i σ H2 _ ⟨_, _, _, _, _, _, s2, _⟩ => SqT.of (s2 _ _ hp)) ?_ ?_⟩
  · rintro i0 x σ H2 H2' hi0 ⟨o2, o3, o4, o5, o6, rfl, s2, inv0⟩ ⟨rfl, hx⟩
    obtain ⟨z, hz, rfl⟩ : ∃ z, l[i0]? = some z ∧ x = vi z := by
      rw [List.getElem?_map] at hx
      cases e : l[i0]? with
      | none => rw [e] at hx; cases hx
      | some z => rw [e] at hx; exact ⟨z, rfl, (Option.some.inj hx).symm⟩
    have hzm := List.mem_of_getElem? hz
    have hzn := orb.lt z hzm
    have s12 := s1.trans s2
    refine ⟨_, rfl, m, CM, dx, _, _, rfl, s12 _ _ m1, M.cl, M.tables, rfl, t, as.map V.ref, rfl, SqT.of (s12 _ _ m2),
      for_it (walk_enumT (xs := as.map V.ref)) (fun i σ H2 => ∃ o3 o4 o5 o6, σ = [some (.ref m), some (vi s), some (vi z), o3, o4, o5, o6] ∧ Same H H2 ∧ Same H1 H2 ∧ (Com T s ∨ i = 0)) ⟨_, _, _, _, rfl, s12, s2, .inr rfl⟩ (fun i σ H2 _ ⟨_, _, _, _, _, s2, _⟩ => SqT.of (s2 _ _ m2)) ?_ ?_⟩
    · rintro i1 v σ H3 H3' hi1 ⟨o3, o4, o5, o6, rfl, s3, s31, inv1⟩ ⟨tp, y1, y2, rfl, ntp, rfl, ey1, ey2⟩
      obtain rfl : V.int (i1 : Nat) = y1 := Option.some.inj ey1
      have s4 := s3.trans (Same.new (o := .tup [.int (i1 : Nat), y2]) ntp)
      have s41 := s31.trans (Same.new (o := .tup [.int (i1 : Nat), y2]) ntp)
      obtain ⟨b1, r1, rfl, f1, g1, h1⟩ := table s4 hi1 ey2
      refine ⟨tp, _, rfl, SqT.of upd_same, rfl, _, _, rfl, _, _, rfl, rfl, ?_⟩
      refine ⟨_, rfl, m, CM, dx, _, _, rfl, s4 _ _ m1, M.cl, M.tables, rfl, t, as.map V.ref, rfl, SqT.of (s4 _ _ m2),
        for_it (walk_enumT (xs := as.map V.ref)) (fun i σ H2 => ∃ o5 o6, σ = [some (.ref m), some (vi s), some (vi z), some (.int (i1 : Nat)), some (.ref b1), o5, o6] ∧ Same H H2 ∧ Same H1 H2 ∧ H2 b1 = some (.tup (iv r1)) ∧ (Com T s ∨ i ≤ 1)) ⟨_, _, rfl, s4, s41, g1, .inr (Nat.zero_le _)⟩ (fun i σ H2 _ ⟨_, _, _, s2, _⟩ => SqT.of (s2 _ _ m2)) ?_ ?_⟩
      · rintro i2 v2 σ H5 H5' hi2 ⟨o5, o6, rfl, s5, s51, g1', inv2⟩ ⟨tp2, z1, z2, rfl, ntp2, rfl, ez1, ez2⟩
        obtain rfl : V.int (i2 : Nat) = z1 := Option.some.inj ez1
        have s6 := s5.trans (Same.new (o := .tup [.int (i2 : Nat), z2]) ntp2)
        have s61 := s51.trans (Same.new (o := .tup [.int (i2 : Nat), z2]) ntp2)
        obtain ⟨b2, r2, rfl, f2, g2, h2⟩ := table s6 hi2 ez2
        have g1s : upd H5 tp2 (.tup [.int (i2 : Nat), .ref b2]) b1 = some (.tup (iv r1)) := (Same.new ntp2) _ _ g1'
        obtain ⟨a1, l1⟩ := hT.at f1 hzn
        obtain ⟨a2, l2⟩ := hT.at f2 hzn
        obtain ⟨a12, _⟩ := hT.at f2 l1
        obtain ⟨a21, _⟩ := hT.at f1 l2
        refine ⟨tp2, _, rfl, SqT.of upd_same, rfl, _, _, rfl, _, _, rfl, rfl, ?_⟩
        refine ⟨_, rfl, _, rfl, _, rfl, b1, _, _, _, rfl, rfl, SqT.of g1s, atI_nat a1, b2, _, _, _, rfl, rfl, SqT.of g2, atI_nat a12, ?_⟩
        refine ⟨_, rfl, _, rfl, _, rfl, b2, _, _, _, rfl, rfl, SqT.of g2, atI_nat a2, b1, _, _, _, rfl, rfl, SqT.of g1s, atI_nat a21, ?_⟩
        refine ⟨rfl, _, rfl, ?_⟩
        -- the same or not
        have cr : ¬ Com T s → Cross T s ∧ i0 = 0 ∧ i1 = 0 ∧ i2 ≤ 1 ∧ z = 0 := fun hn => by
          have c := how.resolve_left hn
          have e0 := inv0.resolve_left hn
          have e1 := inv1.resolve_left hn
          have e2 := inv2.resolve_left hn
          refine ⟨c, e0, e1, e2, ?_⟩
          rw [e0, zero_first srt (by rw [← c.1]; exact orb.mem)] at hz
          exact (Option.some.inj hz).symm
        by_cases he : stp T i2 (stp T i1 z) = stp T i1 (stp T i2 z)
        · rw [he, decide_eq_true (show vi (stp T i1 (stp T i2 z)) = vi (stp T i1 (stp T i2 z)) from rfl)]
          refine iteF ⟨_, _, rfl, s6, s61, g1s, ?_⟩
          by_cases hc : Com T s
          · exact .inl hc
          · obtain ⟨c, e0, e1, e2, ez⟩ := cr hc
            refine .inr ?_
            rcases Nat.lt_or_ge i2 1 with h | h
            · omega
            · have e3 : i2 = 1 := by omega
              rw [e3, e1, ez] at he
              exact absurd he c.2.2
        · rw [decide_eq_false (show ¬ vi (stp T i2 (stp T i1 z)) = vi (stp T i1 (stp T i2 z)) from fun e => he (by injection e with e; omega))]
          refine iteT ?_
          have hn : ¬ Com T s := fun hc => he (com hc z hzm i1 i2 h1 h2)
          obtain ⟨c, e0, e1, e2, ez⟩ := cr hn
          have e3 : i2 = 1 := by
            rcases Nat.lt_or_ge i2 1 with h | h
            · have e4 : i2 = 0 := by omega
              rw [e4, e1] at he
              exact absurd rfl he
            · omega
          refine ⟨_, rfl, _, rfl, _, rfl, by show 3 ≤ sizeLine; decide, fun p3 np3 => ?_⟩
          rcases q with ⟨hc, _⟩ | ⟨_, q⟩
          · exact absurd hc hn
          · refine q _ p3 (s6.trans (Same.new np3)) ?_
            rw [upd_same, e3, e1, ez] <;> rfl
      · rintro σ H5 ⟨o5, o6, rfl, s5, s51, _, inv2⟩
        refine ⟨_, _, _, _, rfl, s5, s51, ?_⟩
        by_cases hc : Com T s
        · exact .inl hc
        · have e2 := inv2.resolve_left hc
          rw [List.length_map, m3.1, (how.resolve_left hc).2.1] at e2
          omega
    · rintro σ H5 ⟨o3, o4, o5, o6, rfl, s5, s51, inv1⟩
      refine ⟨_, _, _, _, _, rfl, s51, ?_⟩
      by_cases hc : Com T s
      · exact .inl hc
      · have e2 := inv1.resolve_left hc
        rw [List.length_map, m3.1, (how.resolve_left hc).2.1] at e2
        omega
  · rintro σ H5 ⟨o2, o3, o4, o5, o6, rfl, s5, inv0⟩
    rcases q with ⟨hc, q⟩ | ⟨c, _⟩
    · exact q _ (s1.trans s5)
    · by_cases hc : Com T s
      · obtain ⟨S, h0, hS, hcom⟩ := hc
        refine absurd (hcom 0 (by rw [← c.1]; exact h0) 0 1 (by rw [c.2.1]; decide) (by rw [c.2.1]; decide)) c.2.2
      · have e2 := inv0.resolve_left hc
        rw [List.length_map] at e2
        have := orb.mem
        rw [List.length_eq_zero_iff.mp e2] at this
        cases this
/-! ### need_commuting -/
def spNeedCom (CM CU : Addr) : Sp := fun vs H Q E => ∃ (m : Addr) (T : List (List Nat)) (n s : Nat), vs = [.ref m, vi s] ∧ MachOk CM H m T n ∧ s < n ∧
  ((Com T s ∧ ∀ H', Same H H' → Q (.ref m) H') ∨ (Cross T s ∧ ∀ H' x, Same H H' → H' x = none → E (.ref CU) (some x) (upd H' x (.xd [("state", vi 0), ("one", vi 0), ("other", vi 1)]))))
abbrev N_need_commuting : List Str := ["machine", "state", "paper"]
theorem sc_need_commuting : FnScope N_need_commuting ["machine", "state"] (defScope s_need_commuting) := ⟨rfl, rfl, rfl, by decide +kernel, rfl, by decide +kernel, by decide +kernel⟩
theorem ok_need_commuting {CM CU : Addr} {f : Addr} {fd : FuncData} (F : Fd K "need_commuting" "need_commuting" s_need_commuting f fd) (B : Bu mg) (C_commuting_paper : Cal Pg w K mg base 6 "commuting_paper" ["machine", "state"] (spPaper CM)) (R_Uncommuting : RxAt Pg w K mg "Uncommuting" CU ["state", "one", "other"]) :
    FnOk Pg w K mg base (L2.CX Pg w) 7 f fd ["machine", "state"] (spNeedCom CM CU) := by
  refine F.ok sc_need_commuting (fun vs H Q E ⟨m, T, n, s, e, _⟩ => by rw [e] <;> rfl) fun cdv A outer s0 H vs Q E hr ⟨m, T, n, s, ev, hM, hs, q⟩ => ?_
  subst ev
  refine ⟨_, (pss_cons (ps_set (i := 2) sc_need_commuting.nd rfl (Or.inl rfl) (pe_cal C_commuting_paper hr (by rfl) passL (pa_cons (pv 0) (pa_cons (pv 1) pa_nil))))
  (pss_cons (ps_if (pt_cmpR op_notN (pv 2) pe_non (nomark _)) (pss_one (ps_raiseX rfl R_Uncommuting hr (by rfl) (takes_of rfl rfl rfl rfl) (pa_cons (pe_ix ix_tup (pv 2) pe_int (fun _ _ => rfl)) (pa_cons (pe_ix ix_tup (pv 2) pe_int (fun _ _ => rfl)) (pa_cons (pe_ix ix_tup (pv 2) pe_int (fun _ _ => rfl)) pa_nil))))) pss_nil)
  (pss_one (ps_ret (pv 0))))), ?_⟩
  refine ⟨_, rfl, _, rfl, m, T, n, s, rfl, hM, hs, ?_⟩
  rcases q with ⟨hc, q⟩ | ⟨hc, q⟩
  · exact .inl ⟨hc, fun H1 s1 => ⟨_, rfl, rfl, _, rfl, iteF ⟨_, rfl, q _ s1⟩⟩⟩
  · refine .inr ⟨hc, fun H1 p s1 hp => ⟨_, rfl, rfl, _, rfl, iteT ?_⟩⟩
    refine ⟨_, rfl, p, _, _, _, rfl, rfl, SqT.of hp, at0 rfl, _, rfl, p, _, _, _, rfl, rfl, SqT.of hp, at1 rfl, _, rfl, p, _, _, _, rfl, rfl, SqT.of hp, at_of (j := 2) rfl rfl, rfl, fun x hx => ?_⟩
    exact q _ x s1 hx
/-! ### put_in -/
def spPutIn : Sp := fun vs H Q _ => ∃ (p : Addr) (x y v : V) (at_ : Nat), vs = [.ref p, vi at_, v] ∧ H p = some (.tup [x, y]) ∧ at_ ≤ 1 ∧ ∀ r, H r = none → Q (.ref r) (upd H r (.tup (if at_ = 0 then [v, y] else [x, v])))
abbrev N_put_in : List Str := ["pair", "at", "item"]
theorem sc_put_in : FnScope N_put_in ["pair", "at", "item"] (defScope s_put_in) := ⟨rfl, rfl, rfl, by decide +kernel, rfl, by decide +kernel, by decide +kernel⟩
theorem ok_put_in {f : Addr} {fd : FuncData} (F : Fd K "put_in" "put_in" s_put_in f fd) : FnOk Pg w K mg base (L2.CX Pg w) 1 f fd ["pair", "at", "item"] spPutIn := by
  refine F.ok sc_put_in (fun vs H Q E ⟨p, x, y, v, a, e, _⟩ => by rw [e] <;> rfl) fun cdv A outer s0 H vs Q E hr ⟨p, x, y, v, a, ev, hp, ha, q⟩ => ?_
  subst ev
  refine ⟨_, (pss_one (ps_ret (pe_ifExp (pt_cmpR op_eq (pv 1) pe_int (nomark _)) (pe_tup (pa_cons (pv 2) (pa_cons (pe_ix ix_tup (pv 0) pe_int (fun _ _ => rfl)) pa_nil))) (pe_tup (pa_cons (pe_ix ix_tup (pv 0) pe_int (fun _ _ => rfl)) (pa_cons (pv 2) pa_nil)))))), ?_⟩
  refine ⟨_, rfl, rfl, _, rfl, ?_⟩
  by_cases h0 : a = 0
  · subst h0
    refine iteD rfl ?_
    refine ⟨_, rfl, _, rfl, p, _, _, _, rfl, rfl, SqT.of hp, at1 rfl, by show 2 ≤ sizeLine; decide, fun r hr => ?_⟩
    exact q r hr
  · refine iteDn (fun e => h0 (by injection e with e; omega)) ?_
    refine ⟨_, rfl, p, _, _, _, rfl, rfl, SqT.of hp, at0 rfl, _, rfl, by show 2 ≤ sizeLine; decide, fun r hr => ?_⟩
    have := q r hr
    rw [if_neg h0] at this
    exact this
end
end K35
set_option maxHeartbeats 4000000
/-! Twin's methods. -/
namespace K35
open PySem PySem.Spec PyProof.Rows L2
/-- what of the class Twin is needed -/
structure TF (K : PySem.W.Frag) (CT : Addr) : Prop where
  cl : Cls K CT
  machine : PySem.W.findIn K (.ref CT) "machine" = some none
  first : PySem.W.findIn K (.ref CT) "first" = some none
  numbers : PySem.W.findIn K (.ref CT) "numbers" = some none
  keeps : PySem.W.findIn K (.ref CT) "keeps" = some none
  states : PySem.W.findIn K (.ref CT) "states" = some none
  copies : PySem.W.findIn K (.ref CT) "copies" = some none
  marks : PySem.W.findIn K (.ref CT) "marks" = some none
  kept : PySem.W.findIn K (.ref CT) "kept" = some none
structure Met (P : Program) (w : World) (K : PySem.W.Frag) (mg : Str → Option Value) (base : Heap) (k : Nat) (C : Addr) (m : Str) (ps : List Str) (sp : Sp) : Prop where
  ex : ∃ (f : Addr) (fd : FuncData), Meth K C m f ∧ Binds K fd ps [] ∧ FnOk P w K mg base (L2.CX P w) k f fd ps sp
section
variable {X : Cx} {k : Nat} {m : Str} {C : Addr} {ps : List Str} {sp : Sp} {E : XK} {apos pos : Pos} {o e : Expr} {es : List Expr} {ta : TE} {t : TA} {pl : Sem Bool}
theorem pe_mt (c : Cls X.K C) (M : Met X.prog X.w X.K X.mg X.base k C m ps sp) (hr : Room k X.A) (hx : Passes (L2.CX X.prog X.w) X E) (he : PE X o ta) (ha : PA X (e :: es) t)
    (hst : starEach (e :: es) X.env = (false, eval e X.env) :: starEach es X.env := by rfl) (hpl : (backTo pos (starEach es X.env)).any (·.1) = false := by rfl)
    (ht : eval (.Call (.Attribute o m apos) (e :: es) [] pos) X.env = (do
      let ov ← eval o X.env
      standAt apos.atName
      let (f, first) ← holding [ov] (getMethod ov m pl)
      callWith pos f first (backTo pos (starEach (e :: es) X.env)) (backToKw pos (keywordEach [] X.env))) := by rfl) : PE X (.Call (.Attribute o m apos) (e :: es) [] pos) (tMeth C m sp [] E ta t) := by
  obtain ⟨f, fd, hm, hb, F⟩ := M.ex
  exact pe_meth he c hm F hr hb .nil hx ha hst hpl ht
theorem pe_mt0 (c : Cls X.K C) (M : Met X.prog X.w X.K X.mg X.base k C m ps sp) (hr : Room k X.A) (hx : Passes (L2.CX X.prog X.w) X E) (he : PE X o ta)
    (ht : eval (.Call (.Attribute o m apos) [] [] pos) X.env = (do
      let ov ← eval o X.env
      standAt apos.atName
      let (f, first) ← holding [ov] (getMethod ov m pl)
      callWith pos f first (backTo pos (starEach [] X.env)) (backToKw pos (keywordEach [] X.env))) := by rfl) : PE X (.Call (.Attribute o m apos) [] [] pos) (tMeth C m sp [] E ta tNil) := by
  obtain ⟨f, fd, hm, hb, F⟩ := M.ex
  exact pe_meth0 he c hm F hr hb .nil hx ht
end
/-- what a callee lets out leaves this def too -/
theorem passE {X : Cx} {E : XK} (tk : Takes X (fun cls d _ H => E cls d H)) : Passes (L2.CX X.prog X.w) X E := passes_call tk fun _ _ _ _ h => h
/-- a Twin's state: its states, copies, marks, kept ones -/
structure Tw where
  s0 : Nat
  s1 : Nat
  c0 : Nat
  c1 : Nat
  m0 : Nat
  m1 : Nat
  k0 : V
  k1 : V
def tfs (m : Addr) (first nums : V) (keeps : V) (a b c d : Addr) : List (Str × V) :=
  [("machine", .ref m), ("first", first), ("numbers", nums), ("keeps", keeps), ("states", .ref a), ("copies", .ref b), ("marks", .ref c), ("kept", .ref d)]
/-- it stands at tw -/
def TwAt (CT : Addr) (H : Hp) (tw m : Addr) (first nums keeps : V) (s : Tw) : Prop := ∃ dx a b c d, H tw = some (.ins CT dx (tfs m first nums keeps a b c d)) ∧
  H a = some (.tup [vi s.s0, vi s.s1]) ∧ H b = some (.tup [vi s.c0, vi s.c1]) ∧ H c = some (.tup [vi s.m0, vi s.m1]) ∧ H d = some (.tup [s.k0, s.k1])
theorem TwAt.keep {CT : Addr} {H H' : Hp} {tw m : Addr} {first nums keeps : V} {s : Tw} (h : TwAt CT H tw m first nums keeps s) (k : ∀ b o, ((∃ xs, o = .tup xs) ∨ b = tw) → H b = some o → H' b = some o) : TwAt CT H' tw m first nums keeps s := by
  obtain ⟨dx, a, b, c, d, h1, h2, h3, h4, h5⟩ := h
  exact ⟨dx, a, b, c, d, k _ _ (.inr rfl) h1, k _ _ (.inl ⟨_, rfl⟩) h2, k _ _ (.inl ⟨_, rfl⟩) h3, k _ _ (.inl ⟨_, rfl⟩) h4, k _ _ (.inl ⟨_, rfl⟩) h5⟩
theorem TwAt.same {CT : Addr} {H H' : Hp} {tw m : Addr} {first nums keeps : V} {s : Tw} (h : TwAt CT H tw m first nums keeps s) (k : Same H H') : TwAt CT H' tw m first nums keeps s := h.keep fun b o _ e => k b o e
/-- who is ahead, by the marks -/
def gapI (nums m0 m1 : Nat) : Int := ((m0 : Int) - (m1 : Int)).fmod (nums : Int)
def aheadV (nums m0 m1 : Nat) : V := if gapI nums m0 m1 = 0 then .non else if gapI nums m0 m1 = 1 then .int 0 else .int 1
/-- the base of a meeting -/
def baseV (nums : Nat) (s : Tw) : V := if gapI nums s.m0 s.m1 = 0 then vi s.c0 else if gapI nums s.m0 s.m1 = 1 then s.k0 else s.k1
/-- a side -/
def sideOk : V → Bool
  | .int i => decide (0 ≤ i) && decide (i ≤ 1)
  | _ => false
section
variable {w : World} {K : PySem.W.Frag} {mg : Str → Option Value} {base : Heap}
/-! ### need_side -/
def spNeedSide (K : PySem.W.Frag) (CR : Addr) : Sp := fun vs H Q E => ∃ tw v, vs = [.ref tw, v] ∧ Sc K H v ∧ (sideOk v = true → Q v H) ∧ (sideOk v = false → ∀ x, H x = none → E (.ref CR) (some x) (upd H x (.xd [("at", v)])))
abbrev N_Twin_need_side : List Str := ["self", "side"]
theorem sc_Twin_need_side : FnScope N_Twin_need_side ["self", "side"] (defScope s_Twin_need_side) := ⟨rfl, rfl, rfl, by decide +kernel, rfl, by decide +kernel, by decide +kernel⟩
theorem ok_Twin_need_side {CR : Addr} {f : Addr} {fd : FuncData} (F : Fd K "need_side" "Twin.need_side" s_Twin_need_side f fd) (C_is_integer : Cal Pg w K mg base 1 "is_integer" ["value"] (spIsInteger K)) (R_Refused : RxAt Pg w K mg "Refused" CR ["at"]) :
    FnOk Pg w K mg base (L2.CX Pg w) 2 f fd ["self", "side"] (spNeedSide K CR) := by
  refine F.ok sc_Twin_need_side (fun vs H Q E ⟨tw, v, e, _⟩ => by rw [e] <;> rfl) fun cdv A outer s0 H vs Q E hr ⟨tw, v, ev, hs, q1, q2⟩ => ?_
  subst ev
  refine ⟨_, (pss_cons (ps_if (PW.pt (pw_or (pt_not (pt_val (pe_cal C_is_integer hr (by rfl) passL (pa_cons (pv 1) pa_nil)))) (pw_or1 (pt_not (pt_chain op_le op_le pe_int (pv 1) pe_int))))) (pss_one (ps_raiseX rfl R_Refused hr (by rfl) (takes_of rfl rfl rfl rfl) (pa_cons (pv 1) pa_nil))) pss_nil)
  (pss_one (ps_ret (pv 1)))), ?_⟩
  refine ⟨_, rfl, v, rfl, hs, _, rfl, ?_⟩
  cases hs with
  | non => exact iteT (iteT ⟨_, rfl, rfl, fun x hx => q2 rfl x hx⟩)
  | bl b => exact iteT (iteT ⟨_, rfl, rfl, fun x hx => q2 rfl x hx⟩)
  | str z => exact iteT (iteT ⟨_, rfl, rfl, fun x hx => q2 rfl x hx⟩)
  | tup p h => exact iteT (iteT ⟨_, rfl, rfl, fun x hx => q2 rfl x hx⟩)
  | int i =>
    refine iteF ⟨_, rfl, _, _, rfl, rfl, _, rfl, ?_⟩
    by_cases h0 : 0 ≤ i
    · refine iteD h0 ⟨_, _, rfl, rfl, _, rfl, ?_⟩
      by_cases h1 : i ≤ 1
      · rw [decide_eq_true h1]
        refine iteF ⟨_, rfl, q1 ?_⟩
        show (decide (0 ≤ i) && decide (i ≤ 1)) = true
        rw [decide_eq_true h0, decide_eq_true h1] <;> rfl
      · rw [decide_eq_false h1]
        refine iteT ⟨_, rfl, rfl, fun x hx => q2 ?_ x hx⟩
        show (decide (0 ≤ i) && decide (i ≤ 1)) = false
        rw [decide_eq_false h1, Bool.and_false]
    · refine iteDn h0 ⟨_, rfl, iteT ⟨_, rfl, rfl, fun x hx => q2 ?_ x hx⟩⟩
      show (decide (0 ≤ i) && decide (i ≤ 1)) = false
      rw [decide_eq_false h0, Bool.false_and]
/-! ### ahead, base -/
def spAhead (CT : Addr) : Sp := fun vs H Q _ => ∃ (tw m : Addr) (first keeps : V) (n : Nat) (s : Tw), vs = [.ref tw] ∧ TwAt CT H tw m first (vi n) keeps s ∧ (n = 2 ∨ n = 3) ∧ Q (aheadV n s.m0 s.m1) H
abbrev N_Twin_ahead : List Str := ["self", "gap"]
theorem sc_Twin_ahead : FnScope N_Twin_ahead ["self"] (defScope s_Twin_ahead) := ⟨rfl, rfl, rfl, by decide +kernel, rfl, by decide +kernel, by decide +kernel⟩
theorem ok_Twin_ahead {CT : Addr} {f : Addr} {fd : FuncData} (F : Fd K "ahead" "Twin.ahead" s_Twin_ahead f fd) (TC : TF K CT) : FnOk Pg w K mg base (L2.CX Pg w) 1 f fd ["self"] (spAhead CT) := by
  refine F.ok sc_Twin_ahead (fun vs H Q E ⟨tw, m, fi, ke, n, s, e, _⟩ => by rw [e] <;> rfl) fun cdv A outer s0 H vs Q E hr ⟨tw, m, fi, ke, n, s, ev, ⟨dx, a, b, c, d, h1, h2, h3, h4, h5⟩, hn, q⟩ => ?_
  subst ev
  refine ⟨_, (pss_cons (ps_if (pt_cmpR op_eq (pe_fld (pv 0) rfl) pe_int (nomark _)) (pss_one (ps_ret (pe_ifExp (pt_cmpR op_ne (pe_ix ix_tup (pe_fld (pv 0) rfl) pe_int (fun _ _ => rfl)) (pe_ix ix_tup (pe_fld (pv 0) rfl) pe_int (fun _ _ => rfl)) (nomark _)) pe_int pe_non))) pss_nil)
  (pss_cons (ps_set (i := 1) sc_Twin_ahead.nd rfl (Or.inl rfl) (pe_op op_modN (pe_op op_sub (pe_ix ix_tup (pe_fld (pv 0) rfl) pe_int (fun _ _ => rfl)) (pe_ix ix_tup (pe_fld (pv 0) rfl) pe_int (fun _ _ => rfl))) (pe_fld (pv 0) rfl)))
  (pss_cons (ps_if (pt_cmpR op_eq (pv 1) pe_int (nomark _)) (pss_one (ps_ret pe_non)) pss_nil)
  (pss_one (ps_ret (pe_ifExp (pt_cmpR op_eq (pv 1) pe_int (nomark _)) pe_int pe_int)))))), ?_⟩
  refine ⟨_, rfl, tw, CT, dx, _, _, rfl, h1, TC.cl, TC.numbers, rfl, rfl, _, rfl, ?_⟩
  refine iteDn (fun e => by injection e with e; omega) ?_
  refine ⟨_, rfl, tw, CT, dx, _, _, rfl, h1, TC.cl, TC.marks, rfl, c, _, _, _, rfl, rfl, SqT.of h4, at0 rfl, ?_⟩
  refine ⟨_, rfl, tw, CT, dx, _, _, rfl, h1, TC.cl, TC.marks, rfl, c, _, _, _, rfl, rfl, SqT.of h4, at1 rfl, _, _, rfl, rfl, ?_⟩
  refine ⟨_, rfl, tw, CT, dx, _, _, rfl, h1, TC.cl, TC.numbers, rfl, _, _, rfl, rfl, by omega, ?_⟩
  refine ⟨_, rfl, rfl, _, rfl, ?_⟩
  by_cases g0 : gapI n s.m0 s.m1 = 0
  · refine iteD (show V.int (gapI n s.m0 s.m1) = .int 0 by rw [g0]) ?_
    have e : aheadV n s.m0 s.m1 = .non := if_pos g0
    rw [e] at q
    exact q
  · refine iteDn (show ¬ V.int (gapI n s.m0 s.m1) = .int 0 from fun e => g0 (by injection e)) ?_
    refine ⟨_, rfl, rfl, _, rfl, ?_⟩
    by_cases g1 : gapI n s.m0 s.m1 = 1
    · refine iteD (show V.int (gapI n s.m0 s.m1) = .int 1 by rw [g1]) ?_
      have e : aheadV n s.m0 s.m1 = .int 0 := (if_neg g0).trans (if_pos g1)
      rw [e] at q
      exact q
    · refine iteDn (show ¬ V.int (gapI n s.m0 s.m1) = .int 1 from fun e => g1 (by injection e)) ?_
      have e : aheadV n s.m0 s.m1 = .int 1 := (if_neg g0).trans (if_neg g1)
      rw [e] at q
      exact q
def spBase (CT : Addr) : Sp := fun vs H Q _ => ∃ (tw m : Addr) (first : V) (n : Nat) (s : Tw), vs = [.ref tw] ∧ TwAt CT H tw m first (vi n) (.bl true) s ∧ (n = 2 ∨ n = 3) ∧ Q (baseV n s) H
abbrev N_Twin_base : List Str := ["self", "told"]
theorem sc_Twin_base : FnScope N_Twin_base ["self"] (defScope s_Twin_base) := ⟨rfl, rfl, rfl, by decide +kernel, rfl, by decide +kernel, by decide +kernel⟩
theorem ok_Twin_base {CT : Addr} {f : Addr} {fd : FuncData} (F : Fd K "base" "Twin.base" s_Twin_base f fd) (TC : TF K CT) (M_ahead : Met Pg w K mg base 1 CT "ahead" ["self"] (spAhead CT)) : FnOk Pg w K mg base (L2.CX Pg w) 2 f fd ["self"] (spBase CT) := by
  refine F.ok sc_Twin_base (fun vs H Q E ⟨tw, m, fi, n, s, e, _⟩ => by rw [e] <;> rfl) fun cdv A outer s0 H vs Q E hr ⟨tw, m, fi, n, s, ev, hA, hn, q⟩ => ?_
  subst ev
  refine ⟨_, (pss_cons (ps_set (i := 1) sc_Twin_base.nd rfl (Or.inl rfl) (pe_mt0 TC.cl M_ahead hr passL (pv 0)))
  (pss_cons (ps_if (pt_cmpR op_isN (pv 1) pe_non (nomark _)) (pss_one (ps_ret (pe_ix ix_tup (pe_fld (pv 0) rfl) pe_int (fun _ _ => rfl)))) pss_nil)
  (pss_one (ps_ret (pe_ifExp (pt_val (pe_fld (pv 0) rfl)) (pe_ix ix_tup (pe_fld (pv 0) rfl) (pv 1) (fun _ _ => rfl)) (pe_ix ix_tup (pe_fld (pv 0) rfl) (pe_op op_sub pe_int (pv 1)) (fun _ _ => rfl))))))), ?_⟩
  have hA0 := hA
  obtain ⟨dx, a, b, c, d, h1, h2, h3, h4, h5⟩ := hA0
  refine ⟨_, rfl, tw, dx, _, rfl, h1, rfl, tw, m, fi, .bl true, n, s, rfl, hA, hn, ?_⟩
  refine ⟨_, rfl, rfl, _, rfl, ?_⟩
  by_cases g0 : gapI n s.m0 s.m1 = 0
  · have e : aheadV n s.m0 s.m1 = .non := if_pos g0
    refine iteD e ?_
    refine ⟨_, rfl, tw, CT, dx, _, _, rfl, h1, TC.cl, TC.copies, rfl, b, _, _, _, rfl, rfl, SqT.of h3, at0 rfl, ?_⟩
    have e2 : baseV n s = vi s.c0 := if_pos g0
    rw [e2] at q
    exact q
  · by_cases g1 : gapI n s.m0 s.m1 = 1
    · have e : aheadV n s.m0 s.m1 = .int 0 := (if_neg g0).trans (if_pos g1)
      rw [e]
      refine iteF ?_
      refine ⟨_, rfl, tw, CT, dx, _, _, rfl, h1, TC.cl, TC.keeps, rfl, _, rfl, iteT ?_⟩
      refine ⟨_, rfl, tw, CT, dx, _, _, rfl, h1, TC.cl, TC.kept, rfl, _, rfl, d, _, _, _, rfl, rfl, SqT.of h5, at0 rfl, ?_⟩
      have e2 : baseV n s = s.k0 := (if_neg g0).trans (if_pos g1)
      rw [e2] at q
      exact q
    · have e : aheadV n s.m0 s.m1 = .int 1 := (if_neg g0).trans (if_neg g1)
      rw [e]
      refine iteF ?_
      refine ⟨_, rfl, tw, CT, dx, _, _, rfl, h1, TC.cl, TC.keeps, rfl, _, rfl, iteT ?_⟩
      refine ⟨_, rfl, tw, CT, dx, _, _, rfl, h1, TC.cl, TC.kept, rfl, _, rfl, d, _, _, _, rfl, rfl, SqT.of h5, at1 rfl, ?_⟩
      have e2 : baseV n s = s.k1 := (if_neg g0).trans (if_neg g1)
      rw [e2] at q
      exact q
end
end K35
set_option maxHeartbeats 4000000
/-! Twin.do, Twin.meet. -/
namespace K35
open PySem PySem.Spec PyProof.Rows L2
def Tw.st (s : Tw) (a : Nat) : Nat := if a = 0 then s.s0 else s.s1
def Tw.setS (s : Tw) (a v : Nat) : Tw := { s with s0 := if a = 0 then v else s.s0, s1 := if a = 0 then s.s1 else v }
/-- a Twin's fields, by what their tuples hold -/
def TwX (CT : Addr) (H : Hp) (tw dx m : Addr) (fi nu ke : V) (S C M N : List V) : Prop := ∃ a b c d, H tw = some (.ins CT dx (tfs m fi nu ke a b c d)) ∧ H a = some (.tup S) ∧ H b = some (.tup C) ∧ H c = some (.tup M) ∧ H d = some (.tup N)
section
variable {CT tw dx m a b c d r : Addr} {H : Hp} {fi nu ke : V} {S C M N : List V}
theorem twx_at (h1 : H tw = some (.ins CT dx (tfs m fi nu ke a b c d))) {p q : Addr} {xs : List V} (h : H p = some (.tup xs)) (hq : H q = none) {o u : HO} : upd (upd H q o) tw u p = some (.tup xs) :=
  (upd_ne (ne_of h h1 (by intro z; cases z))).trans ((upd_ne (ne_of_none h hq)).trans h)
theorem twx_but (h1 : H tw = some (.ins CT dx (tfs m fi nu ke a b c d))) (hr : H r = none) {o u : HO} : SameBut tw H (upd (upd H r o) tw u) := fun b o hb e => (upd_ne hb).trans ((upd_ne (ne_of_none e hr)).trans e)
theorem twx_new (h1 : H tw = some (.ins CT dx (tfs m fi nu ke a b c d))) (hr : H r = none) {xs : List V} {u : HO} : upd (upd H r (.tup xs)) tw u r = some (.tup xs) := by
  rw [upd_ne (Ne.symm (ne_of_none h1 hr)), upd_same]
theorem twx_states (h1 : H tw = some (.ins CT dx (tfs m fi nu ke a b c d))) (h2 : H a = some (.tup S)) (h3 : H b = some (.tup C)) (h4 : H c = some (.tup M)) (h5 : H d = some (.tup N)) (hr : H r = none) {S' : List V} :
    TwX CT (upd (upd H r (.tup S')) tw (.ins CT dx (putF "states" (.ref r) (tfs m fi nu ke a b c d)))) tw dx m fi nu ke S' C M N :=
  ⟨r, b, c, d, upd_same, twx_new h1 hr, twx_at h1 h3 hr, twx_at h1 h4 hr, twx_at h1 h5 hr⟩
theorem twx_copies (h1 : H tw = some (.ins CT dx (tfs m fi nu ke a b c d))) (h2 : H a = some (.tup S)) (h3 : H b = some (.tup C)) (h4 : H c = some (.tup M)) (h5 : H d = some (.tup N)) (hr : H r = none) {S' : List V} :
    TwX CT (upd (upd H r (.tup S')) tw (.ins CT dx (putF "copies" (.ref r) (tfs m fi nu ke a b c d)))) tw dx m fi nu ke S S' M N :=
  ⟨a, r, c, d, upd_same, twx_at h1 h2 hr, twx_new h1 hr, twx_at h1 h4 hr, twx_at h1 h5 hr⟩
theorem twx_marks (h1 : H tw = some (.ins CT dx (tfs m fi nu ke a b c d))) (h2 : H a = some (.tup S)) (h3 : H b = some (.tup C)) (h4 : H c = some (.tup M)) (h5 : H d = some (.tup N)) (hr : H r = none) {S' : List V} :
    TwX CT (upd (upd H r (.tup S')) tw (.ins CT dx (putF "marks" (.ref r) (tfs m fi nu ke a b c d)))) tw dx m fi nu ke S C S' N :=
  ⟨a, b, r, d, upd_same, twx_at h1 h2 hr, twx_at h1 h3 hr, twx_new h1 hr, twx_at h1 h5 hr⟩
theorem twx_kept (h1 : H tw = some (.ins CT dx (tfs m fi nu ke a b c d))) (h2 : H a = some (.tup S)) (h3 : H b = some (.tup C)) (h4 : H c = some (.tup M)) (h5 : H d = some (.tup N)) (hr : H r = none) {S' : List V} :
    TwX CT (upd (upd H r (.tup S')) tw (.ins CT dx (putF "kept" (.ref r) (tfs m fi nu ke a b c d)))) tw dx m fi nu ke S C M S' :=
  ⟨a, b, c, r, upd_same, twx_at h1 h2 hr, twx_at h1 h3 hr, twx_at h1 h4 hr, twx_new h1 hr⟩
end
theorem SameBut.trans {m : Addr} {H H1 H2 : Hp} (a : SameBut m H H1) (b : SameBut m H1 H2) : SameBut m H H2 := fun c o hc e => b c o hc (a c o hc e)
theorem sideOk_of {a : Nat} (h : a ≤ 1) : sideOk (vi a) = true := by
  show (decide ((0 : Int) ≤ a) && decide ((a : Int) ≤ 1)) = true
  rw [decide_eq_true (by omega), decide_eq_true (by omega)] <;> rfl
section
variable {w : World} {K : PySem.W.Frag} {mg : Str → Option Value} {base : Heap}
/-! ### do -/
def spDo (K : PySem.W.Frag) (CT CM CR CD : Addr) : Sp := fun vs H Q E => ∃ (tw m : Addr) (side deed first nums keeps : V) (s : Tw) (T : List (List Nat)) (n : Nat), vs = [.ref tw, side, deed] ∧ TwAt CT H tw m first nums keeps s ∧ MachOk CM H m T n ∧ s.s0 < n ∧ s.s1 < n ∧ Sc K H side ∧
  ((sideOk side = false ∧ ∀ x, H x = none → E (.ref CR) (some x) (upd H x (.xd [("at", side)]))) ∨
    ∃ a, a ≤ 1 ∧ side = vi a ∧ Sc K H deed ∧ ((isBel T.length deed = false ∧ ∀ x, H x = none → E (.ref CD) (some x) (upd H x (.xd [("deed", deed)]))) ∨
      ∃ d, d < T.length ∧ deed = vi d ∧ ∀ H', SameBut tw H H' → TwAt CT H' tw m first nums keeps (s.setS a (stp T d (s.st a))) → Q (vi (stp T d (s.st a))) H'))
abbrev N_Twin_do : List Str := ["self", "side", "deed", "at", "state"]
theorem sc_Twin_do : FnScope N_Twin_do ["self", "side", "deed"] (defScope s_Twin_do) := ⟨rfl, rfl, rfl, by decide +kernel, rfl, by decide +kernel, by decide +kernel⟩
theorem ok_Twin_do {CT CM CR CD : Addr} {f : Addr} {fd : FuncData} (F : Fd K "do" "Twin.do" s_Twin_do f fd) (TC : TF K CT) (M : MF K CM) (M_need_side : Met Pg w K mg base 2 CT "need_side" ["self", "side"] (spNeedSide K CR))
    (C_need_deed : Cal Pg w K mg base 4 "need_deed" ["machine", "deed"] (spNeedDeed K CM CD)) (C_put_in : Cal Pg w K mg base 1 "put_in" ["pair", "at", "item"] spPutIn) : FnOk Pg w K mg base (L2.CX Pg w) 5 f fd ["self", "side", "deed"] (spDo K CT CM CR CD) := by
  refine F.ok sc_Twin_do (fun vs H Q E ⟨tw, m, side, deed, fi, nu, ke, s, T, n, e, _⟩ => by rw [e] <;> rfl) fun cdv A outer s0 H vs Q E hr ⟨tw, m, side, deed, fi, nu, ke, s, T, n, ev, hA, hM, l0, l1, hs, q⟩ => ?_
  subst ev
  refine ⟨_, (pss_cons (ps_set (i := 3) sc_Twin_do.nd rfl (Or.inl rfl) (pe_mt TC.cl M_need_side (hr.mono (by decide)) (passE (takes_of rfl rfl rfl rfl)) (pv 0) (pa_cons (pv 1) pa_nil)))
  (pss_cons (ps_set (i := 4) sc_Twin_do.nd rfl (Or.inl rfl) (pe_ix ix_tup (pe_ix ix_tup (pe_fld (pe_fld (pv 0) rfl) rfl) (pe_cal C_need_deed hr (by rfl) (passE (takes_of rfl rfl rfl rfl)) (pa_cons (pe_fld (pv 0) rfl) (pa_cons (pv 2) pa_nil))) (fun _ _ => rfl)) (pe_ix ix_tup (pe_fld (pv 0) rfl) (pv 3) (fun _ _ => rfl)) (fun _ _ => rfl)))
  (pss_cons (ps_fld (pv 0) (pe_cal C_put_in (hr.mono (by decide)) (by rfl) passL (pa_cons (pe_fld (pv 0) rfl) (pa_cons (pv 3) (pa_cons (pv 4) pa_nil)))) rfl)
  (pss_one (ps_ret (pv 4)))))), ?_⟩
  have hT := hM.tab
  obtain ⟨dx, a, b, c, d, h1, h2, h3, h4, h5⟩ := hA
  obtain ⟨t, dxm, as, m1, m2, m3, _⟩ := hM
  refine ⟨_, rfl, tw, dx, _, rfl, h1, rfl, _, rfl, tw, side, rfl, hs, fun ok => ?_, fun bad x hx => ?_⟩
  rotate_left
  · rcases q with ⟨_, q⟩ | ⟨at_, ha, rfl, _⟩
    · exact q x hx
    · have : sideOk (vi at_) = true := by
        show (decide ((0 : Int) ≤ at_) && decide ((at_ : Int) ≤ 1)) = true
        rw [decide_eq_true (by omega), decide_eq_true (by omega)] <;> rfl
      rw [this] at bad
      cases bad
  rcases q with ⟨bad, _⟩ | ⟨at_, ha, rfl, hd, q⟩
  · rw [bad] at ok
    cases ok
  refine ⟨_, rfl, tw, CT, dx, _, _, rfl, h1, TC.cl, TC.machine, rfl, m, CM, dxm, _, _, rfl, m1, M.cl, M.tables, rfl, ?_⟩
  refine ⟨_, rfl, tw, CT, dx, _, _, rfl, h1, TC.cl, TC.machine, rfl, _, rfl, m, t, dxm, T.length, n, deed, rfl, m1, hd, fun ok2 => ?_, fun bad2 x hx => ?_⟩
  rotate_left
  · rcases q with ⟨_, q⟩ | ⟨d, hd2, rfl, _⟩
    · exact q x hx
    · rw [isBel_lt hd2] at bad2
      cases bad2
  rcases q with ⟨bad2, _⟩ | ⟨de, hd2, rfl, q⟩
  · rw [bad2] at ok2
    cases ok2
  obtain ⟨p, r, e1, f1, g1⟩ := m3.get hd2
  have hst : s.st at_ < n := by
    unfold Tw.st
    split
    · exact l0
    · exact l1
  obtain ⟨hy, hyn⟩ := hT.at f1 hst
  have hix : ([vi s.s0, vi s.s1] : List V)[at_]? = some (vi (s.st at_)) := by
    rcases Nat.le_one_iff_eq_zero_or_eq_one.mp ha with e | e <;> (rw [e] <;> rfl)
  refine ⟨t, _, _, _, rfl, rfl, SqT.of m2, atI_nat (by rw [List.getElem?_map, e1] <;> rfl), ?_⟩
  refine ⟨_, rfl, tw, CT, dx, _, _, rfl, h1, TC.cl, TC.states, rfl, _, rfl, a, _, _, _, rfl, rfl, SqT.of h2, atI_nat hix, p, _, _, _, rfl, rfl, SqT.of g1, atI_nat hy, ?_⟩
  refine ⟨_, rfl, tw, CT, dx, _, _, rfl, h1, TC.cl, TC.states, rfl, _, rfl, _, rfl, a, _, _, _, at_, rfl, h2, ha, fun r2 nr2 => ?_⟩
  have nR : ∀ {b : Addr} {o : HO}, H b = some o → b ≠ r2 := fun e => ne_of_none e nr2
  refine ⟨_, rfl, tw, CT, dx, _, rfl, (upd_ne (nR h1)).trans h1, TC.cl, TC.states, by show 8 < 1000; decide, _, rfl, ?_⟩
  refine q _ (fun b o hb e => (upd_ne hb).trans ((upd_ne (nR e)).trans e)) ⟨dx, r2, b, c, d, upd_same, ?_, (upd_ne (ne_of h3 h1 (by intro z; cases z))).trans ((upd_ne (nR h3)).trans h3), (upd_ne (ne_of h4 h1 (by intro z; cases z))).trans ((upd_ne (nR h4)).trans h4), (upd_ne (ne_of h5 h1 (by intro z; cases z))).trans ((upd_ne (nR h5)).trans h5)⟩
  rw [upd_ne (Ne.symm (nR h1)), upd_same]
  rcases Nat.le_one_iff_eq_zero_or_eq_one.mp ha with e | e <;> (subst e <;> rfl)
/-! ### meet -/
/-- the marks behind a meeting by a -/
def mk0 (n : Nat) (s : Tw) (a : Nat) : Nat := if aheadV n s.m0 s.m1 = vi a then s.m0 else if a = 0 then (s.m1 + 1) % n else s.m0
def mk1 (n : Nat) (s : Tw) (a : Nat) : Nat := if aheadV n s.m0 s.m1 = vi a then s.m1 else if a = 0 then s.m1 else (s.m0 + 1) % n
def meetS (n : Nat) (s : Tw) (a : Nat) (wh : Bool) (z : Nat) : Tw where
  s0 := if wh = true ∨ a = 0 then z else s.s0
  s1 := if wh = true ∨ a ≠ 0 then z else s.s1
  c0 := if wh = true ∨ a = 0 then z else s.c0
  c1 := if wh = true ∨ a ≠ 0 then z else s.c1
  m0 := if wh = true then (if a = 0 then mk0 n s a else mk1 n s a) else mk0 n s a
  m1 := if wh = true then (if a = 0 then mk0 n s a else mk1 n s a) else mk1 n s a
  k0 := if a = 0 then vi s.s1 else s.k0
  k1 := if a = 0 then s.k1 else vi s.s0
theorem fmod_nat (m n : Nat) (hn : 0 < n) : ((m : Int) + 1).fmod (n : Int) = (((m + 1) % n : Nat) : Int) := by
  rw [Int.fmod_eq_emod_of_nonneg _ (by omega), Int.natCast_emod] <;> rfl
def spMeet (K : PySem.W.Frag) (CT CM CR : Addr) : Sp := fun vs H Q E => ∃ (tw m : Addr) (side whole first : V) (nu : Nat) (s : Tw) (T : List (List Nat)) (n : Nat), vs = [.ref tw, side, whole] ∧ TwAt CT H tw m first (vi nu) (.bl true) s ∧ MachOk CM H m T n ∧ s.s0 < n ∧ s.s1 < n ∧ (nu = 2 ∨ nu = 3) ∧ Sc K H side ∧
  ((sideOk side = false ∧ ∀ x, H x = none → E (.ref CR) (some x) (upd H x (.xd [("at", side)]))) ∨
    ∃ a, a ≤ 1 ∧ side = vi a ∧ ((a = 1 ∧ nu = 2 ∧ ∀ x, H x = none → E (.ref CR) (some x) (upd H x (.xd [("at", vi 1)]))) ∨
      ((a = 0 ∨ nu = 3) ∧ ((isB whole = false ∧ Sc K H whole ∧ ∀ x, H x = none → E (.ref CR) (some x) (upd H x (.xd [("at", whole)]))) ∨
        ∃ wh bs z, whole = .bl wh ∧ baseV nu s = vi bs ∧ bs < n ∧ Ends T bs s.s0 s.s1 z ∧ ∀ H', SameBut tw H H' → TwAt CT H' tw m first (vi nu) (.bl true) (meetS nu s a wh z) → Q (vi z) H'))))
abbrev N_Twin_meet : List Str := ["self", "side", "whole", "at", "told", "met"]
theorem sc_Twin_meet : FnScope N_Twin_meet ["self", "side", "whole"] (defScope s_Twin_meet) := ⟨rfl, rfl, rfl, by decide +kernel, rfl, by decide +kernel, by decide +kernel⟩
theorem ok_Twin_meet {CT CM CR : Addr} {f : Addr} {fd : FuncData} {kws : List (Str × V)} (F : FunD K "meet" "Twin.meet" (defArgs s_Twin_meet) (defBody s_Twin_meet) (defScope s_Twin_meet) [] kws f fd) (B : Bu mg) (TC : TF K CT) (M : MF K CM) (R_Refused : RxAt Pg w K mg "Refused" CR ["at"])
    (M_need_side : Met Pg w K mg base 2 CT "need_side" ["self", "side"] (spNeedSide K CR)) (M_ahead : Met Pg w K mg base 1 CT "ahead" ["self"] (spAhead CT)) (M_base : Met Pg w K mg base 2 CT "base" ["self"] (spBase CT))
    (C_join : Cal Pg w K mg base 5 "join" ["machine", "archive", "here", "there"] (spJoin CM)) (C_put_in : Cal Pg w K mg base 1 "put_in" ["pair", "at", "item"] spPutIn) : FnOk Pg w K mg base (L2.CX Pg w) 6 f fd ["self", "side", "whole"] (spMeet K CT CM CR) := by
  refine F.ok sc_Twin_meet (fun vs H Q E ⟨tw, m, side, whole, fi, nu, s, T, n, e, _⟩ => by rw [e] <;> rfl) fun cdv A outer s0 H vs Q E hr ⟨tw, m, side, whole, fi, nu, s, T, n, ev, hA, hM, l0, l1, hn, hs, q⟩ => ?_
  subst ev
  have hr1 := hr.mono (by decide : 1 ≤ 5)
  have hr2 := hr.mono (by decide : 2 ≤ 5)
  refine ⟨_, (pss_cons (ps_set (i := 3) sc_Twin_meet.nd rfl (Or.inl rfl) (pe_mt TC.cl M_need_side hr2 (passE (takes_of rfl rfl rfl rfl)) (pv 0) (pa_cons (pv 1) pa_nil)))
  (C8.pss_cut (ps_if (PW.pt (pw_and (pt_cmpR op_eq (pv 3) pe_int (nomark _)) (pw_and1 (pt_cmpR op_lt (pe_fld (pv 0) rfl) pe_int (nomark _))))) (pss_one (ps_raiseX rfl R_Refused hr (by rfl) (takes_of rfl rfl rfl rfl) (pa_cons (pv 1) pa_nil))) pss_nil)
  (pss_cons (ps_if (pt_not (pt_val (pe_callB call_isi (by rfl) B.isinstance (by decide +kernel) (pa_cons (pv 2) (pa_cons (pe_bltn (v := .ty "bool") (by rfl) B.bool (by decide +kernel) rfl) pa_nil))))) (pss_one (ps_raiseX rfl R_Refused hr (by rfl) (takes_of rfl rfl rfl rfl) (pa_cons (pv 2) pa_nil))) pss_nil)
  (pss_cons (ps_set (i := 4) sc_Twin_meet.nd rfl (Or.inl rfl) (pe_mt0 TC.cl M_ahead hr1 passL (pv 0)))
  (pss_cons (ps_set (i := 5) sc_Twin_meet.nd rfl (Or.inl rfl) (pe_cal C_join hr (by rfl) passL (pa_cons (pe_fld (pv 0) rfl) (pa_cons (pe_mt0 TC.cl M_base hr2 passL (pv 0)) (pa_cons (pe_ix ix_tup (pe_fld (pv 0) rfl) pe_int (fun _ _ => rfl)) (pa_cons (pe_ix ix_tup (pe_fld (pv 0) rfl) pe_int (fun _ _ => rfl)) pa_nil))))))
  (C8.pss_cut (ps_if (PW.pt (pw_or (pt_cmpR op_isN (pv 4) pe_non (nomark _)) (pw_or1 (pt_cmpR op_ne (pv 4) (pv 3) (nomark _))))) (pss_one (ps_fld (pv 0) (pe_cal C_put_in hr1 (by rfl) passL (pa_cons (pe_fld (pv 0) rfl) (pa_cons (pv 3) (pa_cons (pe_op op_modN (pe_op op_add (pe_ix ix_tup (pe_fld (pv 0) rfl) (pe_op op_sub pe_int (pv 3)) (fun _ _ => rfl)) pe_int) (pe_fld (pv 0) rfl)) pa_nil)))) rfl)) pss_nil)
  (pss_cons (ps_fld (pv 0) (pe_cal C_put_in hr1 (by rfl) passL (pa_cons (pe_fld (pv 0) rfl) (pa_cons (pv 3) (pa_cons (pe_ifExp (pt_val (pe_fld (pv 0) rfl)) (pe_ix ix_tup (pe_fld (pv 0) rfl) (pe_op op_sub pe_int (pv 3)) (fun _ _ => rfl)) pe_non) pa_nil)))) rfl)
  (pss_cons (ps_fld (pv 0) (pe_cal C_put_in hr1 (by rfl) passL (pa_cons (pe_fld (pv 0) rfl) (pa_cons (pv 3) (pa_cons (pv 5) pa_nil)))) rfl)
  (pss_cons (ps_fld (pv 0) (pe_cal C_put_in hr1 (by rfl) passL (pa_cons (pe_fld (pv 0) rfl) (pa_cons (pv 3) (pa_cons (pv 5) pa_nil)))) rfl)
  (C8.pss_cut (ps_if (pt_val (pv 2)) (pss_cons (ps_fld (pv 0) (pe_tup (pa_cons (pv 5) (pa_cons (pv 5) pa_nil))) rfl)
  (pss_cons (ps_fld (pv 0) (pe_tup (pa_cons (pv 5) (pa_cons (pv 5) pa_nil))) rfl)
  (pss_one (ps_fld (pv 0) (pe_tup (pa_cons (pe_ix ix_tup (pe_fld (pv 0) rfl) (pv 3) (fun _ _ => rfl)) (pa_cons (pe_ix ix_tup (pe_fld (pv 0) rfl) (pv 3) (fun _ _ => rfl)) pa_nil))) rfl)))) pss_nil)
  (pss_one (ps_ret (pv 5))))))))))))), ?_⟩
  have hT := hM.tab
  have hA0 := hA
  obtain ⟨dx, a, b, c, d, h1, h2, h3, h4, h5⟩ := hA0
  refine ⟨_, rfl, tw, dx, _, rfl, h1, rfl, _, rfl, tw, side, rfl, hs, fun ok => ?_, fun bad x hx => ?_⟩
  rotate_left
  · rcases q with ⟨_, q⟩ | ⟨at_, ha, rfl, _⟩
    · exact q x hx
    · rw [sideOk_of ha] at bad
      cases bad
  rcases q with ⟨bad, _⟩ | ⟨at_, ha, rfl, q⟩
  · rw [bad] at ok
    cases ok
  rcases q with ⟨rfl, rfl, q⟩ | ⟨hat, q⟩
  · -- side 1 of a pair that has two numbers
    refine ⟨fun _ _ => False, ⟨_, rfl, rfl, _, rfl, iteD rfl ?_⟩, fun _ _ z => z.elim⟩
    refine ⟨_, rfl, tw, CT, dx, _, _, rfl, h1, TC.cl, TC.numbers, rfl, _, _, rfl, rfl, _, rfl, iteD (by decide) ?_⟩
    exact ⟨_, rfl, rfl, fun x hx => q x hx⟩
  -- the side is good
  refine ⟨fun σ H' => H' = H ∧ σ = [some (.ref tw), some (vi at_), some whole, some (vi at_), none, none], ⟨_, rfl, rfl, _, rfl, ?_⟩, ?_⟩
  · by_cases h1a : at_ = 1
    · subst h1a
      have h3n : nu = 3 := by omega
      refine iteD rfl ?_
      refine ⟨_, rfl, tw, CT, dx, _, _, rfl, h1, TC.cl, TC.numbers, rfl, _, _, rfl, rfl, _, rfl, iteDn (by omega) ⟨rfl, rfl⟩⟩
    · exact iteDn (fun z => h1a (by injection z with z; omega)) (iteF ⟨rfl, rfl⟩)
  rintro σ H' ⟨rfl, rfl⟩
  rcases q with ⟨hb, hsw, q⟩ | ⟨wh, bs, z, rfl, hbs, hbn, hE, q⟩
  · -- whole is no bool
    refine ⟨_, rfl, _, _, _, _, _, rfl, .ty "bool", hsw.ty, kit_bool hsw, _, rfl, ?_⟩
    rw [hb]
    exact iteT ⟨_, rfl, rfl, fun x hx => q x hx⟩
  refine ⟨_, rfl, _, _, _, _, _, rfl, .ty "bool", (Sc.bl (K := K) (H := H') wh).ty, kit_bool (K := K) (H := H') (.bl wh), _, rfl, iteF ?_⟩
  -- told, met
  refine ⟨_, rfl, tw, dx, _, rfl, h1, rfl, tw, m, fi, .bl true, nu, s, rfl, hA, hn, ?_⟩
  refine ⟨_, rfl, tw, CT, dx, _, _, rfl, h1, TC.cl, TC.machine, rfl, ?_⟩
  refine ⟨_, rfl, tw, dx, _, rfl, h1, rfl, tw, m, fi, nu, s, rfl, hA, hn, ?_⟩
  refine ⟨_, rfl, tw, CT, dx, _, _, rfl, h1, TC.cl, TC.states, rfl, a, _, _, _, rfl, rfl, SqT.of h2, at0 rfl, ?_⟩
  refine ⟨_, rfl, tw, CT, dx, _, _, rfl, h1, TC.cl, TC.states, rfl, a, _, _, _, rfl, rfl, SqT.of h2, at1 rfl, ?_⟩
  refine ⟨m, T, n, bs, s.s0, s.s1, z, by rw [hbs] <;> rfl, hM, hbn, l0, l1, hE, fun H1 sj => ?_⟩
  have nu0 : 0 < nu := by omega
  have few : ∀ v : V, ∀ f : Str, (putF f v (tfs m fi (vi nu) (.bl true) a b c d)).length < 1000 := fun v f => by
    have := length_putF f v (tfs m fi (vi nu) (.bl true) a b c d)
    have e : (tfs m fi (vi nu) (.bl true) a b c d).length = 8 := rfl
    omega
  have other : ∀ x y : V, atI [x, y] (1 - (at_ : Int)) = some (if at_ = 0 then y else x) := fun x y => by
    rcases Nat.le_one_iff_eq_zero_or_eq_one.mp ha with e | e
    · rw [e]
      exact at_of (j := 1) rfl rfl
    · rw [e]
      exact at_of (j := 0) rfl rfl
  have own : ∀ x y : V, ([x, y] : List V)[at_]? = some (if at_ = 0 then x else y) := fun x y => by
    rcases Nat.le_one_iff_eq_zero_or_eq_one.mp ha with e | e <;> (rw [e] <;> rfl)
  have g1 := sj _ _ h1
  have g2 := sj _ _ h2
  have g3 := sj _ _ h3
  have g4 := sj _ _ h4
  have g5 := sj _ _ h5
  have b1 : SameBut tw H' H1 := fun b o _ e => sj b o e
  -- the marks
  refine ⟨fun σ H2 => SameBut tw H' H2 ∧ TwX CT H2 tw dx m fi (vi nu) (.bl true) [vi s.s0, vi s.s1] [vi s.c0, vi s.c1] [vi (mk0 nu s at_), vi (mk1 nu s at_)] [s.k0, s.k1] ∧ ∃ o4, σ = [some (.ref tw), some (vi at_), some (.bl wh), some (vi at_), o4, some (vi z)], ?_, ?_⟩
  · have upd_marks : aheadV nu s.m0 s.m1 ≠ vi at_ → ∀ (σ : L2.St) (o4 : Option V), σ = [some (.ref tw), some (vi at_), some (.bl wh), some (vi at_), o4, some (vi z)] → ∀ {D : L2.Ends},
        (∀ H2, SameBut tw H' H2 → TwX CT H2 tw dx m fi (vi nu) (.bl true) [vi s.s0, vi s.s1] [vi s.c0, vi s.c1] [vi (mk0 nu s at_), vi (mk1 nu s at_)] [s.k0, s.k1] → D.nx σ H2) →
        sFld K (tVar 0) (tCall spPutIn [] E0 (tCons (tFld K (tVar 0) "marks") (tCons (tVar 3) (tCons (tOp (rI (fun _ j => j ≠ 0) fun i j => .int (i.fmod j)) (tOp (rI0 fun i j => .int (i + j)) (tOp (rIxT K) (tFld K (tVar 0) "marks") (tOp (rI0 fun i j => .int (i - j)) (tC (.int 1)) (tVar 3))) (tC (.int 1))) (tFld K (tVar 0) "numbers")) tNil)))) "marks" D σ H1 := by
      rintro hne σ o4 rfl D k
      refine ⟨_, rfl, tw, CT, dx, _, _, rfl, g1, TC.cl, TC.marks, rfl, _, rfl, ?_⟩
      refine ⟨_, rfl, tw, CT, dx, _, _, rfl, g1, TC.cl, TC.marks, rfl, _, rfl, _, _, rfl, rfl, c, _, _, _, rfl, rfl, SqT.of g4, other _ _, ?_⟩
      refine ⟨((if at_ = 0 then s.m1 else s.m0 : Nat) : Int), 1, by by_cases h : at_ = 0 <;> simp [h], rfl, ?_⟩
      refine ⟨_, rfl, tw, CT, dx, _, _, rfl, g1, TC.cl, TC.numbers, rfl, _, _, rfl, rfl, by omega, ?_⟩
      refine ⟨c, _, _, _, at_, rfl, g4, ha, fun r nr => ?_⟩
      refine ⟨_, rfl, tw, CT, dx, _, rfl, (upd_ne (ne_of_none g1 nr)).trans g1, TC.cl, TC.marks, by show 8 < 1000; decide, ?_⟩
      refine k _ (b1.trans (twx_but g1 nr)) ?_
      have e : (if at_ = 0 then [V.int ((((if at_ = 0 then s.m1 else s.m0 : Nat) : Int) + 1).fmod (nu : Int)), vi s.m1] else [vi s.m0, V.int ((((if at_ = 0 then s.m1 else s.m0 : Nat) : Int) + 1).fmod (nu : Int))]) = [vi (mk0 nu s at_), vi (mk1 nu s at_)] := by
        rw [fmod_nat _ _ nu0]
        unfold mk0 mk1
        rw [if_neg hne, if_neg hne]
        by_cases h : at_ = 0 <;> simp [h]
      rw [← e]
      exact twx_marks g1 g2 g3 g4 g5 nr
    generalize hav : aheadV nu s.m0 s.m1 = av at *
    have cav : av = .non ∨ av = .int 0 ∨ av = .int 1 := by
      rw [← hav]
      unfold aheadV
      split
      · exact .inl rfl
      · split
        · exact .inr (.inl rfl)
        · exact .inr (.inr rfl)
    have stay : av = vi at_ → TwX CT H1 tw dx m fi (vi nu) (.bl true) [vi s.s0, vi s.s1] [vi s.c0, vi s.c1] [vi (mk0 nu s at_), vi (mk1 nu s at_)] [s.k0, s.k1] := fun e => by
      have e1 : mk0 nu s at_ = s.m0 := if_pos (hav.trans e)
      have e2 : mk1 nu s at_ = s.m1 := if_pos (hav.trans e)
      rw [e1, e2]
      exact ⟨a, b, c, d, g1, g2, g3, g4, g5⟩
    refine ⟨_, rfl, rfl, _, rfl, ?_⟩
    rcases cav with rfl | rfl | rfl
    · refine iteD rfl (iteT ?_)
      exact upd_marks (by intro z; cases z) _ _ rfl fun H2 b2 t2 => ⟨b2, t2, _, rfl⟩
    · refine iteDn (by intro z; cases z) ⟨_, rfl, _, rfl, rfl, _, rfl, ?_⟩
      by_cases h : V.int 0 = vi at_
      · rw [decide_eq_true h]
        exact iteF ⟨b1, stay h, _, rfl⟩
      · rw [decide_eq_false h]
        exact iteT (upd_marks h _ _ rfl fun H2 b2 t2 => ⟨b2, t2, _, rfl⟩)
    · refine iteDn (by intro z; cases z) ⟨_, rfl, _, rfl, rfl, _, rfl, ?_⟩
      by_cases h : V.int 1 = vi at_
      · rw [decide_eq_true h]
        exact iteF ⟨b1, stay h, _, rfl⟩
      · rw [decide_eq_false h]
        exact iteT (upd_marks h _ _ rfl fun H2 b2 t2 => ⟨b2, t2, _, rfl⟩)
  rintro σ H2 ⟨bu2, ⟨a2, b2, c2, d2, k1, k2, k3, k4, k5⟩, o4, rfl⟩
  -- kept
  refine ⟨_, rfl, tw, CT, dx, _, _, rfl, k1, TC.cl, TC.kept, rfl, _, rfl, ?_⟩
  refine ⟨_, rfl, tw, CT, dx, _, _, rfl, k1, TC.cl, TC.keeps, rfl, _, rfl, iteT ?_⟩
  refine ⟨_, rfl, tw, CT, dx, _, _, rfl, k1, TC.cl, TC.states, rfl, _, rfl, _, _, rfl, rfl, a2, _, _, _, rfl, rfl, SqT.of k2, other _ _, ?_⟩
  refine ⟨d2, _, _, _, at_, rfl, k5, ha, fun r nr => ?_⟩
  refine ⟨_, rfl, tw, CT, dx, _, rfl, (upd_ne (ne_of_none k1 nr)).trans k1, TC.cl, TC.kept, by show 8 < 1000; decide, ?_⟩
  obtain ⟨H3, e3⟩ : ∃ H3, H3 = upd (upd H2 r (.tup (if at_ = 0 then [if at_ = 0 then vi s.s1 else vi s.s0, s.k1] else [s.k0, if at_ = 0 then vi s.s1 else vi s.s0]))) tw (.ins CT dx (putF "kept" (.ref r) (tfs m fi (vi nu) (.bl true) a2 b2 c2 d2))) := ⟨_, rfl⟩
  have bu3 : SameBut tw H' H3 := bu2.trans (by rw [e3]; exact twx_but k1 nr)
  have t3 : TwX CT H3 tw dx m fi (vi nu) (.bl true) [vi s.s0, vi s.s1] [vi s.c0, vi s.c1] [vi (mk0 nu s at_), vi (mk1 nu s at_)] (if at_ = 0 then [vi s.s1, s.k1] else [s.k0, vi s.s0]) := by
    have e : (if at_ = 0 then [if at_ = 0 then vi s.s1 else vi s.s0, s.k1] else [s.k0, if at_ = 0 then vi s.s1 else vi s.s0]) = (if at_ = 0 then [vi s.s1, s.k1] else [s.k0, vi s.s0]) := by by_cases h : at_ = 0 <;> simp [h]
    rw [← e, e3]
    exact twx_kept k1 k2 k3 k4 k5 nr
  rw [← e3]
  clear e3 nr k1 k2 k3 k4 k5 bu2
  obtain ⟨a3, b3, c3, d3, k1, k2, k3, k4, k5⟩ := t3
  -- states
  refine ⟨_, rfl, tw, CT, dx, _, _, rfl, k1, TC.cl, TC.states, rfl, _, rfl, _, rfl, a3, _, _, _, at_, rfl, k2, ha, fun r nr => ?_⟩
  refine ⟨_, rfl, tw, CT, dx, _, rfl, (upd_ne (ne_of_none k1 nr)).trans k1, TC.cl, TC.states, by show 8 < 1000; decide, ?_⟩
  obtain ⟨H4, e4⟩ : ∃ H4, H4 = upd (upd H3 r (.tup (if at_ = 0 then [vi z, vi s.s1] else [vi s.s0, vi z]))) tw (.ins CT dx (putF "states" (.ref r) (tfs m fi (vi nu) (.bl true) a3 b3 c3 d3))) := ⟨_, rfl⟩
  have bu4 : SameBut tw H' H4 := bu3.trans (by rw [e4]; exact twx_but k1 nr)
  have t4 := twx_states (S' := if at_ = 0 then [vi z, vi s.s1] else [vi s.s0, vi z]) k1 k2 k3 k4 k5 nr
  rw [← e4] at t4 ⊢
  clear e4 nr k1 k2 k3 k4 k5 bu3
  obtain ⟨a4, b4, c4, d4, k1, k2, k3, k4, k5⟩ := t4
  -- copies
  refine ⟨_, rfl, tw, CT, dx, _, _, rfl, k1, TC.cl, TC.copies, rfl, _, rfl, _, rfl, b4, _, _, _, at_, rfl, k3, ha, fun r nr => ?_⟩
  refine ⟨_, rfl, tw, CT, dx, _, rfl, (upd_ne (ne_of_none k1 nr)).trans k1, TC.cl, TC.copies, by show 8 < 1000; decide, ?_⟩
  obtain ⟨H5, e5⟩ : ∃ H5, H5 = upd (upd H4 r (.tup (if at_ = 0 then [vi z, vi s.c1] else [vi s.c0, vi z]))) tw (.ins CT dx (putF "copies" (.ref r) (tfs m fi (vi nu) (.bl true) a4 b4 c4 d4))) := ⟨_, rfl⟩
  have bu5 : SameBut tw H' H5 := bu4.trans (by rw [e5]; exact twx_but k1 nr)
  have t5 := twx_copies (S' := if at_ = 0 then [vi z, vi s.c1] else [vi s.c0, vi z]) k1 k2 k3 k4 k5 nr
  rw [← e5] at t5 ⊢
  clear e5 nr k1 k2 k3 k4 k5 bu4
  have fin : ∀ H9, SameBut tw H' H9 → TwX CT H9 tw dx m fi (vi nu) (.bl true) [vi (meetS nu s at_ wh z).s0, vi (meetS nu s at_ wh z).s1] [vi (meetS nu s at_ wh z).c0, vi (meetS nu s at_ wh z).c1] [vi (meetS nu s at_ wh z).m0, vi (meetS nu s at_ wh z).m1] [(meetS nu s at_ wh z).k0, (meetS nu s at_ wh z).k1] → Q (vi z) H9 :=
    fun H9 b9 ⟨a9, b9', c9, d9, x1, x2, x3, x4, x5⟩ => q H9 b9 ⟨dx, a9, b9', c9, d9, x1, x2, x3, x4, x5⟩
  refine ⟨fun σ H9 => σ = [some (.ref tw), some (vi at_), some (.bl wh), some (vi at_), o4, some (vi z)] ∧ Q (vi z) H9, ⟨_, rfl, _, rfl, ?_⟩, fun σ H9 h => ?_⟩
  rotate_left
  · obtain ⟨rfl, h⟩ := h
    exact ⟨_, rfl, h⟩
  cases wh with
  | false =>
    refine iteF ⟨rfl, fin _ bu5 ?_⟩
    obtain ⟨a5, b5, c5, d5, k1, k2, k3, k4, k5⟩ := t5
    refine ⟨a5, b5, c5, d5, k1, k2.trans ?_, k3.trans ?_, k4.trans ?_, k5.trans ?_⟩ <;> (by_cases h : at_ = 0 <;> simp [meetS, h])
  | true =>
    refine iteT ?_
    obtain ⟨a5, b5, c5, d5, k1, k2, k3, k4, k5⟩ := t5
    refine ⟨_, rfl, _, rfl, by show 2 ≤ sizeLine; decide, fun r nr => ?_⟩
    refine ⟨_, rfl, tw, CT, dx, _, rfl, (upd_ne (ne_of_none k1 nr)).trans k1, TC.cl, TC.states, by show 8 < 1000; decide, ?_⟩
    obtain ⟨H6, e6⟩ : ∃ H6, H6 = upd (upd H5 r (.tup [vi z, vi z])) tw (.ins CT dx (putF "states" (.ref r) (tfs m fi (vi nu) (.bl true) a5 b5 c5 d5))) := ⟨_, rfl⟩
    have bu6 : SameBut tw H' H6 := bu5.trans (by rw [e6]; exact twx_but k1 nr)
    have t6 := twx_states (S' := [vi z, vi z]) k1 k2 k3 k4 k5 nr
    rw [← e6] at t6 ⊢
    clear e6 nr k1 k2 k3 k4 k5 bu5
    obtain ⟨a6, b6, c6, d6, k1, k2, k3, k4, k5⟩ := t6
    refine ⟨_, rfl, _, rfl, by show 2 ≤ sizeLine; decide, fun r nr => ?_⟩
    refine ⟨_, rfl, tw, CT, dx, _, rfl, (upd_ne (ne_of_none k1 nr)).trans k1, TC.cl, TC.copies, by show 8 < 1000; decide, ?_⟩
    obtain ⟨H7, e7⟩ : ∃ H7, H7 = upd (upd H6 r (.tup [vi z, vi z])) tw (.ins CT dx (putF "copies" (.ref r) (tfs m fi (vi nu) (.bl true) a6 b6 c6 d6))) := ⟨_, rfl⟩
    have bu7 : SameBut tw H' H7 := bu6.trans (by rw [e7]; exact twx_but k1 nr)
    have t7 := twx_copies (S' := [vi z, vi z]) k1 k2 k3 k4 k5 nr
    rw [← e7] at t7 ⊢
    clear e7 nr k1 k2 k3 k4 k5 bu6
    obtain ⟨a7, b7, c7, d7, k1, k2, k3, k4, k5⟩ := t7
    refine ⟨_, rfl, tw, CT, dx, _, _, rfl, k1, TC.cl, TC.marks, rfl, _, rfl, c7, _, _, _, rfl, rfl, SqT.of k4, atI_nat (own _ _), ?_⟩
    refine ⟨_, rfl, tw, CT, dx, _, _, rfl, k1, TC.cl, TC.marks, rfl, _, rfl, c7, _, _, _, rfl, rfl, SqT.of k4, atI_nat (own _ _), ?_⟩
    refine ⟨by show 2 ≤ sizeLine; decide, fun r nr => ?_⟩
    refine ⟨_, rfl, tw, CT, dx, _, rfl, (upd_ne (ne_of_none k1 nr)).trans k1, TC.cl, TC.marks, by show 8 < 1000; decide, ?_⟩
    refine ⟨rfl, fin _ (bu7.trans (twx_but k1 nr)) ?_⟩
    obtain ⟨a8, b8, c8, d8, x1, x2, x3, x4, x5⟩ := twx_marks (S' := [if at_ = 0 then vi (mk0 nu s at_) else vi (mk1 nu s at_), if at_ = 0 then vi (mk0 nu s at_) else vi (mk1 nu s at_)]) k1 k2 k3 k4 k5 nr
    refine ⟨a8, b8, c8, d8, x1, x2.trans ?_, x3.trans ?_, x4.trans ?_, x5.trans ?_⟩ <;> (by_cases h : at_ = 0 <;> simp [meetS, h])
end
end K35
set_option maxHeartbeats 4000000
/-! Twin.__init__. -/
namespace K35
open PySem PySem.Spec PyProof.Rows L2
section
variable {CT tw dx p q r : Addr} {H : Hp} {fs : List (Str × V)} {o u : HO} {xs : List V}
theorem fld_at (h1 : H tw = some (.ins CT dx fs)) (h : H p = some (.tup xs)) (hq : H q = none) : upd (upd H q o) tw u p = some (.tup xs) :=
  (upd_ne (ne_of h h1 (by intro z; cases z))).trans ((upd_ne (ne_of_none h hq)).trans h)
theorem fld_but (h1 : H tw = some (.ins CT dx fs)) (hr : H r = none) : SameBut tw H (upd (upd H r o) tw u) := fun b o hb e => (upd_ne hb).trans ((upd_ne (ne_of_none e hr)).trans e)
theorem fld_new (h1 : H tw = some (.ins CT dx fs)) (hr : H r = none) : upd (upd H r (.tup xs)) tw u r = some (.tup xs) := by
  rw [upd_ne (Ne.symm (ne_of_none h1 hr)), upd_same]
end
def numOk : V → Bool
  | .int i => decide (1 ≤ i) && decide (i ≤ 3)
  | _ => false
section
variable {w : World} {K : PySem.W.Frag} {mg : Str → Option Value} {base : Heap}
def spTwinInit (K : PySem.W.Frag) (CT CM CS CU CR : Addr) : Sp := fun vs H Q E => ∃ (tw m dx : Addr) (first nums keeps : V) (T : List (List Nat)) (n : Nat), vs = [.ref tw, .ref m, first, nums, keeps] ∧ H tw = some (.ins CT dx []) ∧ MachOk CM H m T n ∧ Sc K H first ∧
  ((isBel n first = false ∧ ∀ x, H x = none → E (.ref CS) (some x) (upd H x (.xd [("state", first)]))) ∨
    ∃ s, s < n ∧ first = vi s ∧ ((Cross T s ∧ ∀ H' x, Same H H' → H' x = none → E (.ref CU) (some x) (upd H' x (.xd [("state", vi 0), ("one", vi 0), ("other", vi 1)]))) ∨
      (Com T s ∧ Sc K H nums ∧ ((numOk nums = false ∧ ∀ H' x, Same H H' → H' x = none → E (.ref CR) (some x) (upd H' x (.xd [("at", nums)]))) ∨
        (numOk nums = true ∧ Sc K H keeps ∧ ((isB keeps = false ∧ ∀ H' x, Same H H' → H' x = none → E (.ref CR) (some x) (upd H' x (.xd [("at", keeps)]))) ∨
          (isB keeps = true ∧ ∀ H', SameBut tw H H' → TwAt CT H' tw m first nums keeps ⟨s, s, s, s, 0, 0, .non, .non⟩ → Q .non H')))))))
theorem Sc.same {H H' : Hp} {v : V} (h : Sc K H v) (s : Same H H') : Sc K H' v := by
  cases h with
  | non => exact .non
  | bl b => exact .bl b
  | int i => exact .int i
  | str z => exact .str z
  | tup p h => exact .tup p (s _ _ h)
abbrev N_Twin_init : List Str := ["self", "machine", "first", "numbers", "keeps"]
theorem sc_Twin_init : FnScope N_Twin_init ["self", "machine", "first", "numbers", "keeps"] (defScope s_Twin_init) := ⟨rfl, rfl, rfl, by decide +kernel, rfl, by decide +kernel, by decide +kernel⟩
theorem ok_Twin_init {CT CM CS CU CR : Addr} {f : Addr} {fd : FuncData} {kws : List (Str × V)} (F : FunD K "__init__" "Twin.__init__" (defArgs s_Twin_init) (defBody s_Twin_init) (defScope s_Twin_init) [] kws f fd) (B : Bu mg) (TC : TF K CT) (R_Refused : RxAt Pg w K mg "Refused" CR ["at"])
    (C_need_state : Cal Pg w K mg base 4 "need_state" ["machine", "state"] (spNeedState K CM CS)) (C_need_commuting : Cal Pg w K mg base 7 "need_commuting" ["machine", "state"] (spNeedCom CM CU)) (C_is_integer : Cal Pg w K mg base 1 "is_integer" ["value"] (spIsInteger K)) :
    FnOk Pg w K mg base (L2.CX Pg w) 8 f fd ["self", "machine", "first", "numbers", "keeps"] (spTwinInit K CT CM CS CU CR) := by
  refine F.ok sc_Twin_init (fun vs H Q E ⟨tw, m, dx, fi, nu, ke, T, n, e, _⟩ => by rw [e] <;> rfl) fun cdv A outer s0 H vs Q E hr ⟨tw, m, dx, fi, nu, ke, T, n, ev, h1, hM, hs, q⟩ => ?_
  subst ev
  refine ⟨_, (pss_cons (ps_expr (pe_cal C_need_state (hr.mono (by decide)) (by rfl) (passE (takes_of rfl rfl rfl rfl)) (pa_cons (pv 1) (pa_cons (pv 2) pa_nil))))
  (pss_cons (ps_expr (pe_cal C_need_commuting hr (by rfl) (passE (takes_of rfl rfl rfl rfl)) (pa_cons (pv 1) (pa_cons (pv 2) pa_nil))))
  (pss_cons (ps_if (PW.pt (pw_or (pt_not (pt_val (pe_cal C_is_integer (hr.mono (by decide)) (by rfl) passL (pa_cons (pv 3) pa_nil)))) (pw_or1 (pt_not (pt_chain op_le op_le pe_int (pv 3) pe_int))))) (pss_one (ps_raiseX rfl R_Refused hr (by rfl) (takes_of rfl rfl rfl rfl) (pa_cons (pv 3) pa_nil))) pss_nil)
  (pss_cons (ps_if (pt_not (pt_val (pe_callB call_isi (by rfl) B.isinstance (by decide +kernel) (pa_cons (pv 4) (pa_cons (pe_bltn (v := .ty "bool") (by rfl) B.bool (by decide +kernel) rfl) pa_nil))))) (pss_one (ps_raiseX rfl R_Refused hr (by rfl) (takes_of rfl rfl rfl rfl) (pa_cons (pv 4) pa_nil))) pss_nil)
  (pss_cons (ps_fld (pv 0) (pv 1) rfl)
  (pss_cons (ps_fld (pv 0) (pv 2) rfl)
  (pss_cons (ps_fld (pv 0) (pv 3) rfl)
  (pss_cons (ps_fld (pv 0) (pv 4) rfl)
  (pss_cons (ps_fld (pv 0) (pe_tup (pa_cons (pv 2) (pa_cons (pv 2) pa_nil))) rfl)
  (pss_cons (ps_fld (pv 0) (pe_tup (pa_cons (pv 2) (pa_cons (pv 2) pa_nil))) rfl)
  (pss_cons (ps_fld (pv 0) (pe_tup (pa_cons pe_int (pa_cons pe_int pa_nil))) rfl)
  (pss_one (ps_fld (pv 0) (pe_tup (pa_cons pe_non (pa_cons pe_non pa_nil))) rfl))))))))))))), ?_⟩
  have hM0 := hM
  obtain ⟨t, dxm, as, m1, m2, m3, hT⟩ := hM0
  refine ⟨_, rfl, _, rfl, m, t, dxm, T.length, n, fi, rfl, m1, hs, fun ok => ?_, fun bad x hx => ?_⟩
  rotate_left
  · rcases q with ⟨_, q⟩ | ⟨s, ls, rfl, _⟩
    · exact q x hx
    · rw [isBel_lt ls] at bad
      cases bad
  rcases q with ⟨bad, _⟩ | ⟨s, ls, rfl, q⟩
  · rw [bad] at ok
    cases ok
  refine ⟨_, rfl, _, rfl, m, T, n, s, rfl, hM, ls, ?_⟩
  rcases q with ⟨hc, q⟩ | ⟨hc, hnu, q⟩
  · exact .inr ⟨hc, q⟩
  refine .inl ⟨hc, fun H1 s1 => ?_⟩
  have hnu1 := hnu.same s1
  refine ⟨_, rfl, nu, rfl, hnu1, _, rfl, ?_⟩
  rcases q with ⟨bad, q⟩ | ⟨good, hke, q⟩
  · -- the numbers are refused
    cases hnu1 with
    | non => exact iteT (iteT ⟨_, rfl, rfl, fun x hx => q _ x s1 hx⟩)
    | bl b => exact iteT (iteT ⟨_, rfl, rfl, fun x hx => q _ x s1 hx⟩)
    | str z => exact iteT (iteT ⟨_, rfl, rfl, fun x hx => q _ x s1 hx⟩)
    | tup p h => exact iteT (iteT ⟨_, rfl, rfl, fun x hx => q _ x s1 hx⟩)
    | int i =>
      refine iteF ⟨_, rfl, _, _, rfl, rfl, _, rfl, ?_⟩
      have bad : (decide (1 ≤ i) && decide (i ≤ 3)) = false := bad
      by_cases h0 : 1 ≤ i
      · refine iteD h0 ⟨_, _, rfl, rfl, _, rfl, ?_⟩
        rw [decide_eq_true h0, Bool.true_and] at bad
        rw [bad]
        exact iteT ⟨_, rfl, rfl, fun x hx => q _ x s1 hx⟩
      · exact iteDn h0 ⟨_, rfl, iteT ⟨_, rfl, rfl, fun x hx => q _ x s1 hx⟩⟩
  obtain ⟨i, rfl, i1, i3⟩ : ∃ i, nu = .int i ∧ 1 ≤ i ∧ i ≤ 3 := by
    cases nu with
    | int i =>
      have good : (decide (1 ≤ i) && decide (i ≤ 3)) = true := good
      rw [Bool.and_eq_true] at good
      exact ⟨i, rfl, of_decide_eq_true good.1, of_decide_eq_true good.2⟩
    | _ => cases good
  refine iteF ⟨_, rfl, _, _, rfl, rfl, _, rfl, iteD i1 ⟨_, _, rfl, rfl, _, rfl, ?_⟩⟩
  rw [decide_eq_true i3]
  refine iteF ?_
  have hke1 := hke.same s1
  refine ⟨_, rfl, _, _, _, _, _, rfl, .ty "bool", hke1.ty, kit_bool hke1, _, rfl, ?_⟩
  rcases q with ⟨bad, q⟩ | ⟨good, q⟩
  · rw [bad]
    exact iteT ⟨_, rfl, rfl, fun x hx => q _ x s1 hx⟩
  rw [good]
  refine iteF ?_
  have g1 := s1 _ _ h1
  refine ⟨_, rfl, _, rfl, tw, CT, dx, _, rfl, g1, TC.cl, TC.machine, by show 0 < 1000; decide, ?_⟩
  refine ⟨_, rfl, _, rfl, tw, CT, dx, _, rfl, upd_same, TC.cl, TC.first, by show 1 < 1000; decide, ?_⟩
  refine ⟨_, rfl, _, rfl, tw, CT, dx, _, rfl, upd_same, TC.cl, TC.numbers, by show 2 < 1000; decide, ?_⟩
  refine ⟨_, rfl, _, rfl, tw, CT, dx, _, rfl, upd_same, TC.cl, TC.keeps, by show 3 < 1000; decide, ?_⟩
  obtain ⟨H2, e2⟩ : ∃ H2, H2 = upd H1 tw (.ins CT dx [("machine", .ref m), ("first", vi s), ("numbers", .int i), ("keeps", ke)]) := ⟨_, rfl⟩
  have bu2 : SameBut tw H H2 := fun b o hb e => by rw [e2, upd_ne hb]; exact s1 _ _ e
  have k2 : H2 tw = some (.ins CT dx [("machine", .ref m), ("first", vi s), ("numbers", .int i), ("keeps", ke)]) := by rw [e2]; exact upd_same
  rw [upd_upd, upd_upd, upd_upd]
  rw [show upd H1 tw (.ins CT dx (putF "keeps" ke (putF "numbers" (.int i) (putF "first" (vi s) (putF "machine" (.ref m) []))))) = H2 from e2.symm]
  clear e2 g1
  refine ⟨_, rfl, _, rfl, by show 2 ≤ sizeLine; decide, fun a na => ?_⟩
  refine ⟨_, rfl, tw, CT, dx, _, rfl, (upd_ne (ne_of_none k2 na)).trans k2, TC.cl, TC.states, by show 4 < 1000; decide, ?_⟩
  obtain ⟨H3, e3⟩ : ∃ H3, H3 = upd (upd H2 a (.tup [vi s, vi s])) tw (.ins CT dx [("machine", .ref m), ("first", vi s), ("numbers", .int i), ("keeps", ke), ("states", .ref a)]) := ⟨_, rfl⟩
  have bu3 := bu2.trans (show SameBut tw H2 H3 by rw [e3]; exact fld_but k2 na)
  have k3 : H3 tw = some (.ins CT dx [("machine", .ref m), ("first", vi s), ("numbers", .int i), ("keeps", ke), ("states", .ref a)]) := by rw [e3]; exact upd_same
  have a3 : H3 a = some (.tup [vi s, vi s]) := by rw [e3]; exact fld_new k2 na
  rw [show upd (upd H2 a (.tup [vi s, vi s])) tw (.ins CT dx (putF "states" (.ref a) [("machine", .ref m), ("first", vi s), ("numbers", .int i), ("keeps", ke)])) = H3 from e3.symm]
  clear e3 na k2 bu2
  refine ⟨_, rfl, _, rfl, by show 2 ≤ sizeLine; decide, fun b nb => ?_⟩
  refine ⟨_, rfl, tw, CT, dx, _, rfl, (upd_ne (ne_of_none k3 nb)).trans k3, TC.cl, TC.copies, by show 5 < 1000; decide, ?_⟩
  obtain ⟨H4, e4⟩ : ∃ H4, H4 = upd (upd H3 b (.tup [vi s, vi s])) tw (.ins CT dx [("machine", .ref m), ("first", vi s), ("numbers", .int i), ("keeps", ke), ("states", .ref a), ("copies", .ref b)]) := ⟨_, rfl⟩
  have bu4 := bu3.trans (show SameBut tw H3 H4 by rw [e4]; exact fld_but k3 nb)
  have k4 : H4 tw = some (.ins CT dx [("machine", .ref m), ("first", vi s), ("numbers", .int i), ("keeps", ke), ("states", .ref a), ("copies", .ref b)]) := by rw [e4]; exact upd_same
  have a4 : H4 a = some (.tup [vi s, vi s]) := by rw [e4]; exact fld_at k3 a3 nb
  have b4 : H4 b = some (.tup [vi s, vi s]) := by rw [e4]; exact fld_new k3 nb
  rw [show upd (upd H3 b (.tup [vi s, vi s])) tw (.ins CT dx (putF "copies" (.ref b) [("machine", .ref m), ("first", vi s), ("numbers", .int i), ("keeps", ke), ("states", .ref a)])) = H4 from e4.symm]
  clear e4 nb k3 bu3 a3
  refine ⟨by show 2 ≤ sizeLine; decide, fun c nc => ?_⟩
  refine ⟨_, rfl, tw, CT, dx, _, rfl, (upd_ne (ne_of_none k4 nc)).trans k4, TC.cl, TC.marks, by show 6 < 1000; decide, ?_⟩
  obtain ⟨H5, e5⟩ : ∃ H5, H5 = upd (upd H4 c (.tup [.int 0, .int 0])) tw (.ins CT dx [("machine", .ref m), ("first", vi s), ("numbers", .int i), ("keeps", ke), ("states", .ref a), ("copies", .ref b), ("marks", .ref c)]) := ⟨_, rfl⟩
  have bu5 := bu4.trans (show SameBut tw H4 H5 by rw [e5]; exact fld_but k4 nc)
  have k5 : H5 tw = some (.ins CT dx [("machine", .ref m), ("first", vi s), ("numbers", .int i), ("keeps", ke), ("states", .ref a), ("copies", .ref b), ("marks", .ref c)]) := by rw [e5]; exact upd_same
  have a5 : H5 a = some (.tup [vi s, vi s]) := by rw [e5]; exact fld_at k4 a4 nc
  have b5 : H5 b = some (.tup [vi s, vi s]) := by rw [e5]; exact fld_at k4 b4 nc
  have c5 : H5 c = some (.tup [vi 0, vi 0]) := by rw [e5]; exact fld_new k4 nc
  rw [show upd (upd H4 c (.tup [.int 0, .int 0])) tw (.ins CT dx (putF "marks" (.ref c) [("machine", .ref m), ("first", vi s), ("numbers", .int i), ("keeps", ke), ("states", .ref a), ("copies", .ref b)])) = H5 from e5.symm]
  clear e5 nc k4 bu4 a4 b4
  refine ⟨by show 2 ≤ sizeLine; decide, fun d nd => ?_⟩
  refine ⟨_, rfl, tw, CT, dx, _, rfl, (upd_ne (ne_of_none k5 nd)).trans k5, TC.cl, TC.kept, by show 7 < 1000; decide, ?_⟩
  exact q _ (bu5.trans (fld_but k5 nd)) ⟨dx, a, b, c, d, upd_same, fld_at k5 a5 nd, fld_at k5 b5 nd, fld_at k5 c5 nd, fld_new k5 nd⟩
end
end K35
set_option maxHeartbeats 4000000
/-! The law's _law_box, _law_take, _law_pick, _law_led. -/
namespace K35
open PySem PySem.Spec PyProof.Rows L2
/-- a box: two ints, the second one small -/
def BoxAt (H : Hp) (b : Addr) : Prop := ∃ x y : Int, H b = some (.lst [.int x, .int y]) ∧ 0 ≤ y ∧ y < 4294967296
theorem fmod_lo {a b : Int} (h : 0 < b) : 0 ≤ a.fmod b := Int.fmod_nonneg_of_pos a h
theorem fmod_hi {a b : Int} (h : 0 < b) : a.fmod b < b := Int.fmod_lt_of_pos a h
theorem abs_lt {i : Int} {n : Nat} (h0 : 0 ≤ i) (h : i < (2 ^ n : Nat)) : i.natAbs < 2 ^ n := by omega
theorem mul_ok {i j : Int} (h0 : 0 ≤ i) (h1 : i < 4294967296) (h2 : 0 ≤ j) (h3 : j < 4294967296) : CMulW i j :=
  wide_mul (a := 32) (b := 32) (by have : (2 : Nat) ^ 32 = 4294967296 := by decide
                                   omega) (by have : (2 : Nat) ^ 32 = 4294967296 := by decide
                                              omega) (by decide) (by decide) (by decide)
theorem div_ok {x : Int} {n : Nat} (h : 0 < n) (h2 : n ≤ 1000000) : CDivW x (n : Int) := by
  have e : (2 : Nat) ^ 30 = 1073741824 := by decide
  exact wide_div (b := 30) (by omega) (by omega) (by decide) (by decide)
section
variable {w : World} {K : PySem.W.Frag} {mg : Str → Option Value} {base : Heap}
def spBox (K : PySem.W.Frag) : Sp := fun vs H Q _ => ∃ (a : Addr) (ns : List Int) (k : Nat), vs = [.ref a, vi k] ∧ SqL K H a (ns.map V.int) ∧ ns.length ≤ 1000000 ∧ k ≤ 1000 ∧ ∀ H' b, Same H H' → H b = none → BoxAt H' b → Q (.ref b) H'
abbrev N_law_box : List Str := ["_law_script", "_law_k", "_law_cell", "_law_great"]
theorem sc_law_box : FnScope N_law_box ["_law_script", "_law_k"] (defScope s_law_box) := ⟨rfl, rfl, rfl, by decide +kernel, rfl, by decide +kernel, by decide +kernel⟩
theorem ok_law_box {f : Addr} {fd : FuncData} (F : Fd K "_law_box" "_law_box" s_law_box f fd) (B : Bu mg) : FnOk Pg w K mg base (L2.CX Pg w) 1 f fd ["_law_script", "_law_k"] (spBox K) := by
  refine F.ok sc_law_box (fun vs H Q E ⟨a, ns, k, e, _⟩ => by rw [e] <;> rfl) fun cdv A outer s0 H vs Q E hr ⟨a, ns, k, ev, ha, hl, hk, q⟩ => ?_
  subst ev
  refine ⟨_, (pss_cons (ps_set (i := 2) sc_law_box.nd rfl (Or.inl rfl) (pe_op op_add (pe_op op_mulW pe_int (pv 1)) pe_int))
  (C8.pss_cut (ps_if (pt_cmpR op_lt (pv 1) (pe_callB call_len_seq (by rfl) B.len (by decide +kernel) (pa_cons (pv 0) pa_nil)) (nomark _)) (pss_one (ps_set (i := 2) sc_law_box.nd rfl (Or.inl rfl) (pe_callB call_abs (by rfl) B.abs (by decide +kernel) (pa_cons (pe_callTy (T := "int") call_int1 (by rfl) B.int (by decide +kernel) (pa_cons (pe_ix ix_list (pv 0) (pv 1) (fun _ _ => rfl)) pa_nil)) pa_nil)))) (pss_one (ps_if (pt_cmpR op_gt (pe_callB call_len_seq (by rfl) B.len (by decide +kernel) (pa_cons (pv 0) pa_nil)) pe_int (nomark _)) (pss_one (ps_set (i := 2) sc_law_box.nd rfl (Or.inl rfl) (pe_op op_add (pv 2) (pe_op op_mulW (pe_op op_modN (pe_callTy (T := "int") call_int1 (by rfl) B.int (by decide +kernel) (pa_cons (pe_callB call_abs (by rfl) B.abs (by decide +kernel) (pa_cons (pe_callTy (T := "int") call_int1 (by rfl) B.int (by decide +kernel) (pa_cons (pe_ix ix_list (pv 0) (pe_op op_modN (pe_callTy (T := "int") call_int1 (by rfl) B.int (by decide +kernel) (pa_cons (pv 1) pa_nil)) (pe_callB call_len_seq (by rfl) B.len (by decide +kernel) (pa_cons (pv 0) pa_nil))) (fun _ _ => rfl)) pa_nil)) pa_nil)) pa_nil)) pe_int) pe_int)))) pss_nil)))
  (C8.pss_cut (ps_set (i := 3) sc_law_box.nd rfl (Or.inl rfl) (pe_ifExp (pt_cmpR op_ge (pv 2) (pe_op op_pow pe_int pe_int) (nomark _)) (pv 2) pe_int))
  (pss_one (ps_ret (pe_lst (pa_cons (pv 3) (pa_cons (pe_op op_add (pe_op op_modN (pe_callTy (T := "int") call_int1 (by rfl) B.int (by decide +kernel) (pa_cons (pe_op op_add (pe_op op_mulW (pe_op op_modN (pe_callTy (T := "int") call_int1 (by rfl) B.int (by decide +kernel) (pa_cons (pv 2) pa_nil)) pe_int) pe_int) (pe_op op_mulW pe_int (pv 1))) pa_nil)) pe_int) pe_int) pa_nil)))))))), ?_⟩
  have len : (((ns.map V.int).length : Nat) : Int) = (ns.length : Int) := by rw [List.length_map]
  refine ⟨_, rfl, _, _, rfl, rfl, mul_ok (by decide) (by decide) (by omega) (by omega), _, _, rfl, rfl, ?_⟩
  refine ⟨fun σ H' => H' = H ∧ ∃ z : Int, σ = [some (.ref a), some (vi k), some (.int z), none], ?_, ?_⟩
  · refine ⟨_, rfl, _, rfl, a, _, rfl, .inl ha, _, _, rfl, rfl, _, rfl, ?_⟩
    by_cases h : k < ns.length
    · refine iteD (by rw [len]; omega) ?_
      refine ⟨_, rfl, _, rfl, a, _, _, _, rfl, rfl, ha, atI_nat (by rw [List.getElem?_map, List.getElem?_eq_getElem h] <;> rfl), .inl ⟨_, rfl, _, rfl, rfl, _, rfl⟩⟩
    · refine iteDn (by rw [len]; omega) ?_
      refine ⟨_, rfl, a, _, rfl, .inl ha, _, _, rfl, rfl, _, rfl, ?_⟩
      by_cases h2 : 0 < ns.length
      · refine iteD (by rw [len]; omega) ?_
        have hne : (ns.length : Int) ≠ 0 := by omega
        have hm0 := fmod_lo (a := (k : Int)) (b := (ns.length : Int)) (by omega)
        have hm1 := fmod_hi (a := (k : Int)) (b := (ns.length : Int)) (by omega)
        obtain ⟨j, hj⟩ : ∃ j : Nat, (k : Int).fmod ((ns.map V.int).length : Nat) = (j : Int) := ⟨((k : Int).fmod (ns.length : Int)).toNat, by rw [len]; omega⟩
        have hjl : j < ns.length := by rw [len] at hj; omega
        refine ⟨_, rfl, _, rfl, _, rfl, .inl ⟨_, rfl, _, rfl, a, _, rfl, .inl ha, _, _, rfl, rfl, by rw [len]; exact hne, ?_⟩⟩
        refine ⟨a, _, _, _, rfl, rfl, ha, by rw [hj]; exact atI_nat (by rw [List.getElem?_map, List.getElem?_eq_getElem hjl] <;> rfl), .inl ⟨_, rfl, _, rfl, .inl ⟨_, rfl, _, _, rfl, rfl, by show (2147483587 : Int) ≠ 0; decide, _, _, rfl, rfl, ?_, _, _, rfl, rfl, rfl, _, rfl⟩⟩⟩
        exact mul_ok (fmod_lo (by decide)) (Int.lt_trans (fmod_hi (by decide)) (by decide)) (by decide) (by decide)
      · exact iteDn (by rw [len]; omega) ⟨rfl, _, rfl⟩
  · rintro σ H' ⟨rfl, z, rfl⟩
    refine ⟨fun σ H9 => H9 = H' ∧ ∃ g : Int, σ = [some (.ref a), some (vi k), some (.int z), some (.int g)], ⟨_, rfl, _, _, rfl, rfl, ⟨by decide, by decide, by decide⟩, _, _, rfl, rfl, _, rfl, ?_⟩, ?_⟩
    · exact ite2 (fun _ => ⟨_, rfl, rfl, _, rfl⟩) fun _ => ⟨rfl, _, rfl⟩
    · rintro σ H9 ⟨rfl, g, rfl⟩
      have h0 : 0 ≤ z.fmod 2147483587 := fmod_lo (by decide)
      have h1 : z.fmod 2147483587 < 2147483587 := fmod_hi (by decide)
      refine ⟨_, rfl, _, rfl, .inl ⟨_, rfl, _, _, rfl, rfl, by show (2147483587 : Int) ≠ 0; decide, _, _, rfl, rfl, mul_ok h0 (by omega) (by decide) (by decide), _, rfl, _, _, rfl, rfl, mul_ok (by decide) (by decide) (by omega) (by omega), _, _, rfl, rfl, .inl ⟨_, rfl, _, _, rfl, rfl, by show (2147483587 : Int) ≠ 0; decide, _, _, rfl, rfl, ?_⟩⟩⟩
      refine ⟨by show 2 ≤ sizeLine; decide, fun l hl => q _ l (Same.new hl) hl ⟨g, _, upd_same, ?_, ?_⟩⟩
      · have := fmod_lo (a := z.fmod 2147483587 * 69069 + 859 * (k : Int)) (b := 2147483587) (by decide)
        omega
      · have := fmod_hi (a := z.fmod 2147483587 * 69069 + 859 * (k : Int)) (b := 2147483587) (by decide)
        omega
/-! ### _law_take -/
def spTake : Sp := fun vs H Q _ => ∃ (b : Addr) (n : Nat), vs = [.ref b, vi n] ∧ BoxAt H b ∧ 0 < n ∧ n ≤ 1000000 ∧ ∀ H' r, r < n → SameBut b H H' → BoxAt H' b → Q (vi r) H'
abbrev N_law_take : List Str := ["_law_box_here", "_law_many", "_law_digit", "_law_raw"]
theorem sc_law_take : FnScope N_law_take ["_law_box_here", "_law_many"] (defScope s_law_take) := ⟨rfl, rfl, rfl, by decide +kernel, rfl, by decide +kernel, by decide +kernel⟩
theorem ok_law_take {f : Addr} {fd : FuncData} (F : Fd K "_law_take" "_law_take" s_law_take f fd) (B : Bu mg) : FnOk Pg w K mg base (L2.CX Pg w) 1 f fd ["_law_box_here", "_law_many"] spTake := by
  refine F.ok sc_law_take (fun vs H Q E ⟨b, n, e, _⟩ => by rw [e] <;> rfl) fun cdv A outer s0 H vs Q E hr ⟨b, n, ev, ⟨x, y, hb, y0, y1⟩, n0, n1, q⟩ => ?_
  subst ev
  refine ⟨_, (pss_cons (ps_if (pt_cmpR op_gt (pe_ix ix_list (pv 0) pe_int (fun _ _ => rfl)) pe_int (nomark _)) (pss_cons (ps_set (i := 2) sc_law_take.nd rfl (Or.inl rfl) (pe_op op_modN (pe_callTy (T := "int") call_int1 (by rfl) B.int (by decide +kernel) (pa_cons (pe_ix ix_list (pv 0) pe_int (fun _ _ => rfl)) pa_nil)) (pv 1)))
  (pss_cons (ps_asg (pe_op op_fdivW (pe_ix ix_list (pv 0) pe_int (fun _ _ => rfl)) (pv 1)) (pg_sub (pv 0) pe_int set_list))
  (pss_one (ps_ret (pv 2))))) pss_nil)
  (pss_cons (ps_set (i := 3) sc_law_take.nd rfl (Or.inl rfl) (pe_op op_modN (pe_callTy (T := "int") call_int1 (by rfl) B.int (by decide +kernel) (pa_cons (pe_op op_add (pe_op op_mulW (pe_ix ix_list (pv 0) pe_int (fun _ _ => rfl)) pe_int) pe_int) pa_nil)) pe_int))
  (pss_cons (ps_asg (pe_op op_add (pe_op op_modN (pe_callTy (T := "int") call_int1 (by rfl) B.int (by decide +kernel) (pa_cons (pe_op op_add (pe_op op_mulW (pv 3) pe_int) pe_int) pa_nil)) pe_int) pe_int) (pg_sub (pv 0) pe_int set_list))
  (pss_one (ps_ret (pe_op op_modN (pe_callTy (T := "int") call_int1 (by rfl) B.int (by decide +kernel) (pa_cons (pe_op op_fdivW (pe_op op_add (pe_op op_mulW (pv 3) pe_int) (pe_ix ix_list (pv 0) pe_int (fun _ _ => rfl))) pe_int) pa_nil)) (pv 1))))))), ?_⟩
  have nn : ((n : Nat) : Int) ≠ 0 := by omega
  refine ⟨_, rfl, b, _, _, _, rfl, rfl, SqL.of hb, at0 rfl, _, _, rfl, rfl, _, rfl, ?_⟩
  have fin : ∀ (z : Int), ∃ r : Nat, z.fmod (n : Int) = (r : Int) ∧ r < n := fun z => by
    have h0 := fmod_lo (a := z) (b := (n : Int)) (by omega)
    have h1 := fmod_hi (a := z) (b := (n : Int)) (by omega)
    exact ⟨(z.fmod (n : Int)).toNat, by omega, by omega⟩
  by_cases hx : 0 < x
  · refine iteD hx ?_
    refine ⟨_, rfl, b, _, _, _, rfl, rfl, SqL.of hb, at0 rfl, .inl ⟨_, rfl, _, rfl, _, _, rfl, rfl, nn, ?_⟩⟩
    refine ⟨_, rfl, b, _, _, _, rfl, rfl, SqL.of hb, at0 rfl, _, rfl, _, _, rfl, rfl, div_ok n0 n1, ?_⟩
    refine ⟨_, rfl, b, _, 0, 0, rfl, rfl, hb, rfl, _, rfl, ?_⟩
    obtain ⟨r, er, hr⟩ := fin x
    have h2 := q (upd H b (.lst [.int (x / (n : Int)), .int y])) r hr (fun c o hc e => (upd_ne hc).trans e) ⟨_, y, upd_same, y0, y1⟩
    rw [show vi r = V.int (x.fmod (n : Int)) by rw [er]] at h2
    exact h2
  · refine iteDn hx ?_
    refine ⟨_, rfl, b, _, _, _, rfl, rfl, SqL.of hb, at1 rfl, _, _, rfl, rfl, mul_ok y0 y1 (by decide) (by decide), _, _, rfl, rfl, .inl ⟨_, rfl, _, _, rfl, rfl, by show (2147483399 : Int) ≠ 0; decide, ?_⟩⟩
    have r0 : 0 ≤ (y * 40692 + 97).fmod 2147483399 := fmod_lo (by decide)
    have r1 : (y * 40692 + 97).fmod 2147483399 < 2147483399 := fmod_hi (by decide)
    obtain ⟨raw, eraw⟩ : ∃ raw, raw = (y * 40692 + 97).fmod 2147483399 := ⟨_, rfl⟩
    rw [← eraw] at r0 r1
    refine ⟨_, rfl, _, _, rfl, rfl, mul_ok (by rw [← eraw]; exact r0) (by rw [← eraw]; omega) (by decide) (by decide), _, _, rfl, rfl, .inl ⟨_, rfl, _, _, rfl, rfl, by show (2147483587 : Int) ≠ 0; decide, _, _, rfl, rfl, ?_⟩⟩
    refine ⟨_, rfl, b, _, 1, 1, rfl, rfl, hb, rfl, ?_⟩
    refine ⟨_, rfl, _, _, rfl, rfl, mul_ok (by rw [← eraw]; exact r0) (by rw [← eraw]; omega) (by decide) (by decide), ?_⟩
    refine ⟨_, rfl, b, _, _, _, rfl, rfl, SqL.of upd_same, at1 rfl, _, _, rfl, rfl, _, _, rfl, rfl, div_ok (n := 8209) (by decide) (by decide), .inl ⟨_, rfl, _, rfl, _, _, rfl, rfl, nn, ?_⟩⟩
    obtain ⟨y2, ey2⟩ : ∃ y2 : Int, y2 = ((y * 40692 + 97).fmod 2147483399 * 40014 + 11).fmod 2147483587 + 1 := ⟨_, rfl⟩
    have z0 := fmod_lo (a := (y * 40692 + 97).fmod 2147483399 * 40014 + 11) (b := 2147483587) (by decide)
    have z1 := fmod_hi (a := (y * 40692 + 97).fmod 2147483399 * 40014 + 11) (b := 2147483587) (by decide)
    obtain ⟨r, er, hr⟩ := fin (((y * 40692 + 97).fmod 2147483399 * 2147483629 + y2) / 8209)
    have h2 := q (upd H b (.lst [.int x, .int y2])) r hr (fun c o hc e => (upd_ne hc).trans e) ⟨_, y2, upd_same, by omega, by omega⟩
    rw [show vi r = V.int ((((y * 40692 + 97).fmod 2147483399 * 2147483629 + y2) / 8209).fmod (n : Int)) by rw [er], ey2] at h2
    exact h2
/-! ### _law_pick -/
def spPick (K : PySem.W.Frag) : Sp := fun vs H Q _ => ∃ (b s : Addr) (xs : List V), vs = [.ref b, .ref s] ∧ BoxAt H b ∧ H s = some (.lst xs) ∧ s ≠ b ∧ 0 < xs.length ∧ xs.length ≤ 1000 ∧ ∀ (H' : Hp) (i : Nat) (v : V), xs[i]? = some v → SameBut b H H' → BoxAt H' b → Q v H'
abbrev N_law_pick : List Str := ["_law_box_here", "_law_some"]
theorem sc_law_pick : FnScope N_law_pick ["_law_box_here", "_law_some"] (defScope s_law_pick) := ⟨rfl, rfl, rfl, by decide +kernel, rfl, by decide +kernel, by decide +kernel⟩
theorem ok_law_pick {f : Addr} {fd : FuncData} (F : Fd K "_law_pick" "_law_pick" s_law_pick f fd) (B : Bu mg) (C_law_take : Cal Pg w K mg base 1 "_law_take" ["_law_box_here", "_law_many"] spTake) : FnOk Pg w K mg base (L2.CX Pg w) 2 f fd ["_law_box_here", "_law_some"] (spPick K) := by
  refine F.ok sc_law_pick (fun vs H Q E ⟨b, s, xs, e, _⟩ => by rw [e] <;> rfl) fun cdv A outer s0 H vs Q E hr ⟨b, s, xs, ev, hb, hs, hne, l0, l1, q⟩ => ?_
  subst ev
  refine ⟨_, (pss_one (ps_ret (pe_ix ix_list (pv 1) (pe_cal C_law_take hr (by rfl) passL (pa_cons (pv 0) (pa_cons (pe_callB call_len_seq (by rfl) B.len (by decide +kernel) (pa_cons (pv 1) pa_nil)) pa_nil))) (fun _ _ => rfl)))), ?_⟩
  refine ⟨_, rfl, _, rfl, _, rfl, s, _, rfl, .inl (SqL.of hs), b, xs.length, rfl, hb, l0, by omega, fun H' r hr sb hb' => ?_⟩
  exact ⟨s, _, _, _, rfl, rfl, SqL.of (sb _ _ hne hs), atI_nat (List.getElem?_eq_getElem hr), q H' r _ (List.getElem?_eq_getElem hr) sb hb'⟩
/-! ### _law_led -/
def spLed : Sp := fun vs H Q _ => ∃ (tb rw_ : Addr) (as : List Addr) (T : List (List Nat)) (n s : Nat) (u : List Nat), vs = [.ref tb, vi s, .ref rw_] ∧ H tb = some (.lst (as.map V.ref)) ∧ RowsAt H as T ∧ TabOk T n ∧ s < n ∧ (∀ d ∈ u, d < T.length) ∧
  (H rw_ = some (.tup (iv u)) ∨ H rw_ = some (.lst (iv u))) ∧ Q (vi (run T u s)) H
abbrev N_law_led : List Str := ["_law_tables", "_law_state", "_law_row", "_law_deed"]
theorem sc_law_led : FnScope N_law_led ["_law_tables", "_law_state", "_law_row"] (defScope s_law_led) := ⟨rfl, rfl, rfl, by decide +kernel, rfl, by decide +kernel, by decide +kernel⟩
theorem ok_law_led {f : Addr} {fd : FuncData} (F : Fd K "_law_led" "_law_led" s_law_led f fd) : FnOk Pg w K mg base (L2.CX Pg w) 1 f fd ["_law_tables", "_law_state", "_law_row"] spLed := by
  refine okN F sc_law_led (fun vs H Q E ⟨tb, r, as, T, n, s, u, e, _⟩ => by rw [e] <;> rfl) fun cdv A outer s0 H vs Q E hr ⟨tb, rw_, as, T, n, s, u, ev, htb, hR, hT, hs, hu, hrow, q⟩ => ?_
  subst ev
  have hin : ∀ {v : List Nat}, (∀ d ∈ v, d < T.length) → run T v s < n := fun {v} hv => (show Closed T (fun x => x < n) from fun x hx d hd => hT.lt' hd hx).run hs hv
  have turn : ∀ {i : Nat} {x : V}, (iv u)[i]? = some x → ∃ d, u[i]? = some d ∧ x = vi d ∧ d < T.length := fun {i x} hx => by
    rw [List.getElem?_map] at hx
    cases e : u[i]? with
    | none => rw [e] at hx; cases hx
    | some d => rw [e] at hx; exact ⟨d, rfl, (Option.some.inj hx).symm, hu d (List.mem_of_getElem? e)⟩
  have step : ∀ {i d : Nat}, u[i]? = some d → run T (u.take (i + 1)) s = stp T d (run T (u.take i) s) := fun {i d} h => by
    rw [List.take_add_one, h]
    exact run_snoc T _ d s
  have fin : run T (u.take (iv u).length) s = run T u s := by rw [List.length_map, List.take_length]
  have low : ∀ i, run T (u.take i) s < n := fun i => hin fun d hd => hu d (List.mem_of_mem_take hd)
  rcases hrow with hrow | hrow
  · refine ⟨_, (pss_cons (ps_for PassesOwn.never rfl (pi_tup (pv 2)) (pg_name (i := 3) sc_law_led.nd rfl (Or.inl rfl))
   (pss_one (ps_set (i := 1) sc_law_led.nd rfl (Or.inl rfl) (pe_ix ix_tup (pe_ix ix_list (pv 0) (pv 3) (fun _ _ => rfl)) (pv 1) (fun _ _ => rfl)))))
  (pss_one (ps_ret (pv 1)))), ?_⟩
    refine ⟨_, rfl, rw_, rfl, ⟨_, SqT.of hrow⟩, for_it (walk_tup (xs := iv u)) (fun i σ H' => H' = H ∧ ∃ o3, σ = [some (.ref tb), some (vi (run T (u.take i) s)), some (.ref rw_), o3]) ⟨rfl, _, rfl⟩ (fun i σ H' _ ⟨e, _⟩ => by rw [e]; exact SqT.of hrow) ?_ ?_⟩
    · rintro i x σ H' H'' hi ⟨rfl, o3, rfl⟩ ⟨rfl, hx⟩
      obtain ⟨d, hd, rfl, hdl⟩ := turn hx
      obtain ⟨p, r, e1, f1, g1⟩ := hR.get hdl
      obtain ⟨hy, _⟩ := hT.at f1 (low i)
      refine ⟨_, rfl, _, rfl, tb, _, _, _, rfl, rfl, SqL.of htb, atI_nat (by rw [List.getElem?_map, e1] <;> rfl), _, rfl, p, _, _, _, rfl, rfl, SqT.of g1, atI_nat hy, ?_⟩
      rw [← step hd]
      exact ⟨rfl, _, rfl⟩
    · rintro σ H' ⟨rfl, o3, rfl⟩
      rw [fin]
      exact ⟨_, rfl, q⟩
  · refine ⟨_, (pss_cons (ps_for PassesOwn.never rfl (pi_list (pv 2)) (pg_name (i := 3) sc_law_led.nd rfl (Or.inl rfl))
   (pss_one (ps_set (i := 1) sc_law_led.nd rfl (Or.inl rfl) (pe_ix ix_tup (pe_ix ix_list (pv 0) (pv 3) (fun _ _ => rfl)) (pv 1) (fun _ _ => rfl)))))
  (pss_one (ps_ret (pv 1)))), ?_⟩
    refine ⟨_, rfl, rw_, rfl, ⟨_, SqL.of hrow⟩, for_it (walk_list (xs := iv u)) (fun i σ H' => H' = H ∧ ∃ o3, σ = [some (.ref tb), some (vi (run T (u.take i) s)), some (.ref rw_), o3]) ⟨rfl, _, rfl⟩ (fun i σ H' _ ⟨e, _⟩ => by rw [e]; exact SqL.of hrow) ?_ ?_⟩
    · rintro i x σ H' H'' hi ⟨rfl, o3, rfl⟩ ⟨rfl, hx⟩
      obtain ⟨d, hd, rfl, hdl⟩ := turn hx
      obtain ⟨p, r, e1, f1, g1⟩ := hR.get hdl
      obtain ⟨hy, _⟩ := hT.at f1 (low i)
      refine ⟨_, rfl, _, rfl, tb, _, _, _, rfl, rfl, SqL.of htb, atI_nat (by rw [List.getElem?_map, e1] <;> rfl), _, rfl, p, _, _, _, rfl, rfl, SqT.of g1, atI_nat hy, ?_⟩
      rw [← step hd]
      exact ⟨rfl, _, rfl⟩
    · rintro σ H' ⟨rfl, o3, rfl⟩
      rw [fin]
      exact ⟨_, rfl, q⟩
end
end K35
set_option maxHeartbeats 4000000
/-! The law's _law_rows. -/
namespace K35
open PySem PySem.Spec PyProof.Rows L2
/-- a state that is reached, and by which row -/
abbrev SR := Nat × List Nat
def sts (P : List SR) : List Nat := P.map Prod.fst
structure RowsIn (T : List (List Nat)) (n s : Nat) (P : List SR) : Prop where
  nd : (sts P).Nodup
  mem : s ∈ sts P
  lt : ∀ p ∈ P, p.1 < n
  row : ∀ p ∈ P, (∀ d ∈ p.2, d < T.length) ∧ run T p.2 s = p.1 ∧ p.2.length ≤ P.length
structure RowsOk (T : List (List Nat)) (n s : Nat) (P : List SR) : Prop where
  inn : RowsIn T n s P
  closed : ∀ x ∈ sts P, ∀ d, d < T.length → stp T d x ∈ sts P
theorem RowsIn.len {T : List (List Nat)} {n s : Nat} {P : List SR} (h : RowsIn T n s P) : P.length ≤ n := by
  have := nodup_le n (sts P) h.nd fun x hx => by
    obtain ⟨p, hp, rfl⟩ := List.mem_map.mp hx
    exact h.lt p hp
  rw [sts, List.length_map] at this
  exact this
theorem RowsOk.run {T : List (List Nat)} {n s : Nat} {P : List SR} (h : RowsOk T n s P) {u : List Nat} (hu : ∀ d ∈ u, d < T.length) : run T u s ∈ sts P :=
  (show Closed T (fun x => x ∈ sts P) from fun x hx d hd => h.closed x hx d hd).run h.inn.mem hu
abbrev kx (x : Nat) : Key := Sum.inl ((x : Nat) : Int)
theorem kx_inj {x y : Nat} (h : kx x = kx y) : x = y := by
  injection h with h
  omega
/-- the dict's entries: the rows stand at R -/
def kS : List SR → List Addr → List (Key × V)
  | p :: P, r :: R => (kx p.1, .ref r) :: kS P R
  | _, _ => []
theorem kS_length : ∀ {P : List SR} {R : List Addr}, P.length = R.length → (kS P R).length = P.length
  | [], _, _ => rfl
  | p :: P, r :: R, h => congrArg Nat.succ (kS_length (Nat.succ.inj h))
  | p :: P, [], h => absurd h (by simp)
theorem kS_snoc : ∀ {P : List SR} {R : List Addr}, P.length = R.length → ∀ (p : SR) (r : Addr), kS (P ++ [p]) (R ++ [r]) = kS P R ++ [(kx p.1, .ref r)]
  | [], [], _, p, r => rfl
  | q :: P, s :: R, h, p, r => congrArg (List.cons _) (kS_snoc (Nat.succ.inj h) p r)
  | q :: P, [], h, _, _ => absurd h (by simp)
  | [], s :: R, h, _, _ => absurd h (by simp)
theorem kS_none : ∀ {P : List SR} {R : List Addr} {x : Nat}, x ∉ sts P → valV (kS P R) (kx x) = none
  | [], _, _, _ => rfl
  | q :: P, [], _, _ => rfl
  | q :: P, s :: R, x, h => by
    have e : valV (kS (q :: P) (s :: R)) (kx x) = valV (kS P R) (kx x) := valV_neg (p := (kx q.1, V.ref s)) (fun z => h (by rw [← kx_inj z]; exact List.mem_cons_self ..))
    rw [e]
    exact kS_none fun z => h (List.mem_cons_of_mem _ z)
theorem kS_some : ∀ {P : List SR} {R : List Addr} {i : Nat} {p : SR} {r : Addr}, (sts P).Nodup → P[i]? = some p → R[i]? = some r → valV (kS P R) (kx p.1) = some (.ref r)
  | [], _, i, p, r, _, h, _ => by simp at h
  | q :: P, [], i, p, r, _, _, h => by simp at h
  | q :: P, s :: R, 0, p, r, _, h1, h2 => by
    obtain rfl : q = p := Option.some.inj h1
    obtain rfl : s = r := Option.some.inj h2
    exact valV_pos (p := (kx q.1, V.ref s)) rfl
  | q :: P, s :: R, i + 1, p, r, hd, h1, h2 => by
    have hd2 := List.nodup_cons.mp hd
    have e : valV (kS (q :: P) (s :: R)) (kx p.1) = valV (kS P R) (kx p.1) := valV_neg (p := (kx q.1, V.ref s)) (fun z => hd2.1 (by
      show q.1 ∈ sts P
      rw [kx_inj z]
      exact List.mem_map.mpr ⟨p, List.mem_of_getElem? h1, rfl⟩))
    rw [e]
    exact kS_some hd2.2 h1 h2
/-- the rows stand at R -/
structure AtSR (H : Hp) (P : List SR) (R : List Addr) : Prop where
  lr : P.length = R.length
  row : ∀ (i : Nat) (p : SR) (r : Addr), P[i]? = some p → R[i]? = some r → H r = some (.tup (iv p.2))
theorem AtSR.keep {H H' : Hp} {P : List SR} {R : List Addr} (h : AtSR H P R) (k : ∀ b xs, H b = some (.tup xs) → H' b = some (.tup xs)) : AtSR H' P R :=
  ⟨h.lr, fun i p r e1 e2 => k _ _ (h.row i p r e1 e2)⟩
theorem AtSR.snoc {H : Hp} {P : List SR} {R : List Addr} (h : AtSR H P R) {p : SR} {r : Addr} (hr : H r = some (.tup (iv p.2))) : AtSR H (P ++ [p]) (R ++ [r]) := by
  refine ⟨by rw [List.length_append, List.length_append, h.lr] <;> rfl, fun i q s e1 e2 => ?_⟩
  rcases Nat.lt_trichotomy i P.length with hi | hi | hi
  · rw [List.getElem?_append_left hi] at e1
    rw [List.getElem?_append_left (by rw [← h.lr]; exact hi)] at e2
    exact h.row i q s e1 e2
  · subst hi
    rw [List.getElem?_concat_length] at e1
    rw [h.lr, List.getElem?_concat_length] at e2
    cases e1
    cases e2
    exact hr
  · rw [List.getElem?_eq_none (by rw [List.length_append, List.length_singleton]; omega)] at e1
    cases e1
section
variable {w : World} {K : PySem.W.Frag} {mg : Str → Option Value} {base : Heap}
def spRows : Sp := fun vs H Q _ => ∃ (tb : Addr) (as : List Addr) (T : List (List Nat)) (n s : Nat), vs = [.ref tb, vi s] ∧ H tb = some (.lst (as.map V.ref)) ∧ RowsAt H as T ∧ TabOk T n ∧ s < n ∧
  ∀ H' d (P : List SR) (R : List Addr), Same H H' → H d = none → H' d = some (.dK (kS P R)) → AtSR H' P R → RowsOk T n s P → Q (.ref d) H'
abbrev N_law_rows : List Str := ["_law_tables", "_law_state", "_law_found", "_law_waiting", "_law_at", "_law_deed", "_law_after"]
theorem sc_law_rows : FnScope N_law_rows ["_law_tables", "_law_state"] (defScope s_law_rows) := ⟨rfl, rfl, rfl, by decide +kernel, rfl, by decide +kernel, by decide +kernel⟩
theorem ok_law_rows {f : Addr} {fd : FuncData} (F : Fd K "_law_rows" "_law_rows" s_law_rows f fd) (B : Bu mg) : FnOk Pg w K mg base (L2.CX Pg w) 1 f fd ["_law_tables", "_law_state"] spRows := by
  refine okN F sc_law_rows (fun vs H Q E ⟨tb, as, T, n, s, e, _⟩ => by rw [e] <;> rfl) fun cdv A outer s0 H vs Q E hr ⟨tb, as, T, n, s, ev, htb, hR, hT, hs, q⟩ => ?_
  subst ev
  refine ⟨_, (pss_cons (ps_par (i := 2) (j := 3) (by rfl) sc_law_rows.nd rfl rfl (by decide) rfl rfl (pa_cons (pe_disp (pps_cons (pv 1) (pe_tup pa_nil) pps_nil) (by rfl) (by rfl) (fun z => by cases z) (by decide)) (pa_cons (pe_lst (pa_cons (pv 1) pa_nil)) pa_nil)) (by rfl))
  (pss_cons (ps_for PassesOwn.never rfl (pi_range1 (by rfl) B.range (pa_cons (pe_callB call_len_seq (by rfl) B.len (by decide +kernel) (pa_cons (pe_ix ix_list (pv 0) pe_int (fun _ _ => rfl)) pa_nil)) pa_nil)) (pg_name (i := 4) sc_law_rows.nd rfl (Or.inl rfl))
   (pss_one (ps_if (pt_cmpR op_lt (pv 4) (pe_callB call_len_seq (by rfl) B.len (by decide +kernel) (pa_cons (pv 3) pa_nil)) (nomark _)) (pss_one (ps_for PassesOwn.never rfl (pi_range1 (by rfl) B.range (pa_cons (pe_callB call_len_seq (by rfl) B.len (by decide +kernel) (pa_cons (pv 0) pa_nil)) pa_nil)) (pg_name (i := 5) sc_law_rows.nd rfl (Or.inl rfl))
   (pss_cons (ps_set (i := 6) sc_law_rows.nd rfl (Or.inl rfl) (pe_ix ix_tup (pe_ix ix_list (pv 0) (pv 5) (fun _ _ => rfl)) (pe_ix ix_list (pv 3) (pv 4) (fun _ _ => rfl)) (fun _ _ => rfl)))
  (pss_one (ps_if (pt_cmp (pc_dnotin (hu_of hr) (pv 6) (pv 2))) (pss_cons (ps_dput (hu_of hr) (pv 2) (pv 6) (pe_op op_catA (pe_dget (hu_of hr) (pv 2) (pe_ix ix_list (pv 3) (pv 4) (fun _ _ => rfl)) (fun _ _ => rfl)) (pe_tup (pa_cons (pv 5) pa_nil))) rfl)
  (pss_one (ps_expr (pe_bm PySem.F.plainAttrs_list PySem.F.slot_list_append PySem.F.type_list_append mt_append (pv 3) (pa_cons (pv 6) pa_nil))))) pss_nil))))) pss_nil)))
  (pss_one (ps_ret (pv 2))))), ?_⟩
  have hn12 := hT.n12
  have hd8 := hT.d8
  have eT : ((as.map V.ref).length : Int) = (T.length : Int) := by rw [List.length_map, hR.1]
  have item : ∀ {i : Nat}, i < T.length → ∃ p r, (as.map V.ref)[i]? = some (.ref p) ∧ T[i]? = some r ∧ H p = some (.tup (iv r)) := fun {i} hi => by
    obtain ⟨p, r, e1, f1, g1⟩ := hR.get hi
    exact ⟨p, r, by rw [List.getElem?_map, e1] <;> rfl, f1, g1⟩
  -- found, waiting
  refine fun d nd => ?_
  have nD : ∀ {b : Addr} {o : HO}, H b = some o → b ≠ d := fun e => ne_of_none e nd
  refine ⟨_, rfl, by show 0 ≤ sizeLine; decide, fun r0 nr0 => ?_⟩
  have dr : d ≠ r0 := fun z => by rw [← z, upd_same] at nr0; cases nr0
  refine ⟨by rw [upd_ne dr, upd_same], [(kx s, .ref r0)], rfl, by show 1 ≤ 15; decide, ?_⟩
  refine ⟨_, rfl, by show 1 ≤ sizeLine; decide, fun wl nwl => ?_⟩
  refine ⟨_, _, rfl, ?_⟩
  have sA : Same H (upd H d (.dK [])) := Same.new nd
  have sB := sA.trans (Same.new (o := .tup []) nr0)
  obtain ⟨H5, e5⟩ : ∃ H5, H5 = upd (upd (upd (upd H d (.dK [])) r0 (.tup [])) d (.dK (kS [(s, [])] [r0]))) wl (.lst [vi s]) := ⟨_, rfl⟩
  have n1 : ∀ {x : Addr} {o : HO}, H x = some o → x ≠ wl := fun {x o} e => ne_of_none ((upd_ne (nD e)).trans (sB _ _ e)) nwl
  have dwl : d ≠ wl := fun z => by rw [← z, upd_same] at nwl; cases nwl
  have rwl : r0 ≠ wl := fun z => by rw [← z, upd_ne (Ne.symm dr), upd_same] at nwl; cases nwl
  have wlH : H wl = none := by
    cases z : H wl with
    | none => rfl
    | some o => exact absurd rfl (n1 z)
  have s5 : Same H H5 := fun x o e => by
    rw [e5, upd_ne (n1 e), upd_ne (nD e)]
    exact sB _ _ e
  have hd5 : H5 d = some (.dK (kS [(s, [])] [r0])) := by rw [e5, upd_ne dwl, upd_same]
  have hw5 : H5 wl = some (.lst (iv (sts [(s, [])]))) := by rw [e5, upd_same] <;> rfl
  have at5 : AtSR H5 [(s, [])] [r0] := by
    refine ⟨rfl, fun i p r e1 e2 => ?_⟩
    cases i with
    | zero =>
      cases e1
      cases e2
      rw [e5, upd_ne rwl, upd_ne (Ne.symm dr), upd_same] <;> rfl
    | succ i => simp at e1
  have in5 : RowsIn T n s [(s, [])] := ⟨List.pairwise_singleton _ _, List.mem_cons_self .., fun p hp => by rw [List.mem_singleton.mp hp]; exact hs, fun p hp => by rw [List.mem_singleton.mp hp]; exact ⟨fun x hx => (List.not_mem_nil hx).elim, rfl, Nat.zero_le _⟩⟩
  rw [show upd (upd (upd (upd H d (.dK [])) r0 (.tup [])) d (.dK (mergeK [] [(kx s, .ref r0)]))) wl (.lst [vi s]) = H5 from e5.symm]
  clear e5 nwl nr0 sA sB
  obtain ⟨p0, r00, e0, f0, g0⟩ := item (i := 0) (by have := hT.d1; omega)
  have hr0 : r00.length = n := hT.len _ (List.mem_of_getElem? f0)
  have len0 : (((iv r00).length : Nat) : Int) = (n : Int) := by rw [List.length_map, hr0]
  -- the turns
  refine ⟨_, rfl, tb, _, _, _, rfl, rfl, SqL.of (s5 _ _ htb), at0 e0, p0, _, rfl, .inr (SqT.of (s5 _ _ g0)), _, rfl, by rw [len0]; omega, by rw [len0]; omega, ?_⟩
  rw [len0, Int.toNat_natCast]
  refine for_range (lo := 0) (n := n) (fun j σ H' => ∃ (P : List SR) (R : List Addr) (o4 o5 o6 : Option V), σ = [some (.ref tb), some (vi s), some (.ref d), some (.ref wl), o4, o5, o6] ∧ Same H H' ∧
      H' d = some (.dK (kS P R)) ∧ H' wl = some (.lst (iv (sts P))) ∧ AtSR H' P R ∧ RowsIn T n s P ∧ ∀ (i : Nat) (p : SR), i < j → P[i]? = some p → ∀ x, x < T.length → stp T x p.1 ∈ sts P)
    ⟨[(s, [])], [r0], none, none, none, rfl, s5, hd5, hw5, at5, in5, fun i p hi => absurd hi (Nat.not_lt_zero _)⟩ ?_ ?_
  · rintro j σ H' hj ⟨P, R, o4, o5, o6, rfl, sH, hD, hW, hA, hI, hC⟩
    have hP := hI.len
    have eWl : (((iv (sts P)).length : Nat) : Int) = (P.length : Int) := by rw [List.length_map, sts, List.length_map]
    refine ⟨_, rfl, _, rfl, wl, _, rfl, .inl (SqL.of hW), _, _, rfl, rfl, _, rfl, ?_⟩
    by_cases hlt : j < P.length
    · refine iteD (by rw [eWl]; omega) ?_
      obtain ⟨⟨x, u⟩, hp⟩ : ∃ p, P[j]? = some p := ⟨P[j], List.getElem?_eq_getElem hlt⟩
      obtain ⟨rj, hrj⟩ : ∃ z, R[j]? = some z := ⟨R[j]'(by rw [← hA.lr]; exact hlt), List.getElem?_eq_getElem _⟩
      have hpm := List.mem_of_getElem? hp
      have hx : x < n := hI.lt _ hpm
      -- each deed
      refine ⟨_, rfl, tb, _, rfl, .inl (SqL.of (sH _ _ htb)), _, rfl, by rw [eT]; omega, by rw [eT]; omega, ?_⟩
      rw [eT, Int.toNat_natCast]
      refine for_range (lo := 0) (n := T.length) (fun i σ H2 => ∃ (P2 : List SR) (R2 : List Addr) (o5 o6 : Option V), σ = [some (.ref tb), some (vi s), some (.ref d), some (.ref wl), some (.int (0 + (j : Int))), o5, o6] ∧ Same H H2 ∧
          H2 d = some (.dK (kS P2 R2)) ∧ H2 wl = some (.lst (iv (sts P2))) ∧ AtSR H2 P2 R2 ∧ RowsIn T n s P2 ∧ P2[j]? = some (x, u) ∧ R2[j]? = some rj ∧ (∀ q ∈ sts P, q ∈ sts P2) ∧
          (∀ (i : Nat) (p : SR), i < j → P2[i]? = some p → P[i]? = some p) ∧ ∀ z, z < i → stp T z x ∈ sts P2)
        ⟨P, R, o5, o6, rfl, sH, hD, hW, hA, hI, hp, hrj, fun _ h => h, fun _ _ _ h => h, fun z hz => absurd hz (Nat.not_lt_zero _)⟩ ?_ ?_
      · rintro i σ H2 hi ⟨P2, R2, o5, o6, rfl, sH2, hD2, hW2, hA2, hI2, hp2, hr2, sub2, old2, done2⟩
        obtain ⟨p, r, e1, f1, g1⟩ := item hi
        obtain ⟨hx1, hx2⟩ := hT.at f1 hx
        have gp := sH2 _ _ g1
        have hwj : (iv (sts P2))[j]? = some (vi x) := by
          rw [List.getElem?_map, sts, List.getElem?_map, hp2] <;> rfl
        -- after
        refine ⟨_, rfl, _, rfl, tb, _, _, _, rfl, rfl, SqL.of (sH2 _ _ htb), at_of (j := i) (by omega) e1, ?_⟩
        refine ⟨_, rfl, _, rfl, wl, _, _, _, rfl, rfl, SqL.of hW2, at_of (j := j) (by omega) hwj, p, _, _, _, rfl, rfl, SqT.of gp, atI_nat hx1, ?_⟩
        refine ⟨_, rfl, _, rfl, d, _, rfl, DGet.k (k := kx (stp T i x)) hD2, _, rfl, ?_⟩
        by_cases hin : stp T i x ∈ sts P2
        · have hs : (valV (kS P2 R2) (kx (stp T i x))).isSome = true := by
            obtain ⟨q, hq, eq⟩ := List.mem_map.mp hin
            obtain ⟨k, hk⟩ := List.mem_iff_getElem?.mp hq
            have hk1 := (List.getElem?_eq_some_iff.mp hk).1
            have hk2 : R2[k]? = some (R2[k]'(by rw [← hA2.lr]; exact hk1)) := List.getElem?_eq_getElem _
            rw [← eq, kS_some hI2.nd hk hk2] <;> rfl
          rw [hs]
          refine iteF ⟨P2, R2, _, _, rfl, sH2, hD2, hW2, hA2, hI2, hp2, hr2, sub2, old2, fun z hz => ?_⟩
          rcases Nat.lt_succ_iff_lt_or_eq.mp hz with h | h
          · exact done2 z h
          · rw [h]
            exact hin
        · rw [kS_none hin]
          refine iteT ?_
          have hP2 := hI2.len
          have hrow := hA2.row j _ _ hp2 hr2
          refine ⟨_, rfl, _, rfl, _, rfl, wl, _, _, _, rfl, rfl, SqL.of hW2, at_of (j := j) (by omega) hwj, d, .ref rj, rfl, by rw [← kS_some hI2.nd hp2 hr2]; exact DGet.k (k := kx x) hD2, ?_⟩
          refine ⟨_, rfl, by show 1 ≤ sizeLine; decide, fun dt ndt => ?_⟩
          have sN4 : Same H2 (upd H2 dt (.tup [.int (0 + (i : Int))])) := Same.new ndt
          have hul : u.length ≤ P2.length := (hI2.row _ (List.mem_of_getElem? hp2)).2.2
          refine catA_of (SqT.of (sN4 _ _ hrow)) (sN4 _ _ hrow) upd_same (line_of (by rw [List.length_map]; simp only [List.length_singleton]; omega)) (by intro z; cases z) fun rr H4 s4 hrr => ?_
          have sN5 := sN4.trans s4
          have hD4 := sN5 _ _ hD2
          refine ⟨_, rfl, _, rfl, d, _, rfl, DPut.k (k := kx (stp T i x)) hD4 (small1000 (by rw [kS_length hA2.lr]; omega)), ?_⟩
          rw [putK_new _ (kS_none hin), ← kS_snoc hA2.lr (stp T i x, u ++ [i]) rr]
          have kD : ∀ b xs, H4 b = some (.tup xs) → upd H4 d (.dK (kS (P2 ++ [(stp T i x, u ++ [i])]) (R2 ++ [rr]))) b = some (.tup xs) := fun b xs e => (upd_ne (ne_of e hD4 (by intro z; cases z))).trans e
          have hW4 : upd H4 d (.dK (kS (P2 ++ [(stp T i x, u ++ [i])]) (R2 ++ [rr]))) wl = some (.lst (iv (sts P2))) := (upd_ne (Ne.symm dwl)).trans (sN5 _ _ hW2)
          refine ⟨_, rfl, .inl ⟨rfl, _, SqL.of hW4⟩, _, rfl, wl, _, _, rfl, rfl, hW4, small1000 (by rw [List.length_map, sts, List.length_map]; omega), ?_⟩
          have kW : ∀ b xs, upd H4 d (.dK (kS (P2 ++ [(stp T i x, u ++ [i])]) (R2 ++ [rr]))) b = some (.tup xs) → upd (upd H4 d (.dK (kS (P2 ++ [(stp T i x, u ++ [i])]) (R2 ++ [rr])))) wl (.lst (iv (sts P2) ++ [vi (stp T i x)])) b = some (.tup xs) := fun b xs e => (upd_ne (ne_of e hW4 (by intro z; cases z))).trans e
          have hrow2 := hI2.row _ (List.mem_of_getElem? hp2)
          refine ⟨P2 ++ [(stp T i x, u ++ [i])], R2 ++ [rr], _, _, rfl, fun b o e => ?_, (upd_ne dwl).trans upd_same, ?_, ?_, ?_, ?_, ?_, fun q hq => ?_, fun k q hk e => ?_, fun z hz => ?_⟩
          · rw [upd_ne (ne_of_none e wlH), upd_ne (nD e)]
            exact sN5 _ _ (sH2 _ _ e)
          · rw [upd_same]
            unfold sts
            show some (HO.lst ((P2.map Prod.fst).map vi ++ [vi (stp T i x)])) = some (HO.lst (((P2 ++ [(stp T i x, u ++ [i])]).map Prod.fst).map vi))
            rw [List.map_append, List.map_append] <;> rfl
          · refine ((hA2.keep fun b xs e => sN5 _ _ e).keep fun b xs e => kW _ _ (kD _ _ e)).snoc (kW _ _ (kD _ _ ?_))
            rw [hrr]
            show some (HO.tup (iv u ++ [.int (0 + (i : Int))])) = some (HO.tup ((u ++ [i]).map vi))
            rw [List.map_append, Int.zero_add] <;> rfl
          · refine ⟨?_, ?_, fun q hq => ?_, fun q hq => ?_⟩
            · unfold sts
              rw [List.map_append]
              exact List.nodup_append.mpr ⟨hI2.nd, List.pairwise_singleton _ _, fun a ha b hb e => hin (by rw [List.mem_singleton.mp hb] at e; rw [e] at ha; exact ha)⟩
            · unfold sts
              rw [List.map_append]
              exact List.mem_append_left _ hI2.mem
            · rcases List.mem_append.mp hq with hq | hq
              · exact hI2.lt q hq
              · rw [List.mem_singleton.mp hq]
                exact hx2
            · rcases List.mem_append.mp hq with hq | hq
              · obtain ⟨k1, k2, k4⟩ := hI2.row q hq
                exact ⟨k1, k2, by rw [List.length_append]; omega⟩
              · rw [List.mem_singleton.mp hq]
                obtain ⟨k1, k2, k4⟩ := hrow2
                refine ⟨fun z hz => ?_, ?_, ?_⟩
                · rcases List.mem_append.mp hz with hz | hz
                  · exact k1 z hz
                  · rw [List.mem_singleton.mp hz]
                    exact hi
                · show run T (u ++ [i]) s = _
                  rw [run_snoc]
                  show stp T i (run T u s) = _
                  rw [show run T u s = x from k2]
                · show (u ++ [i]).length ≤ _
                  rw [List.length_append, List.length_append]
                  simp only [List.length_singleton]
                  omega
          · rw [List.getElem?_append_left (List.getElem?_eq_some_iff.mp hp2).1]
            exact hp2
          · rw [List.getElem?_append_left (List.getElem?_eq_some_iff.mp hr2).1]
            exact hr2
          · unfold sts
            rw [List.map_append]
            exact List.mem_append_left _ (sub2 q hq)
          · have hk2 : k < P2.length := by have := (List.getElem?_eq_some_iff.mp hp2).1; omega
            rw [List.getElem?_append_left hk2] at e
            exact old2 k q hk e
          · unfold sts
            rw [List.map_append]
            rcases Nat.lt_succ_iff_lt_or_eq.mp hz with h | h
            · exact List.mem_append_left _ (done2 z h)
            · rw [h]
              exact List.mem_append_right _ (List.mem_singleton.mpr rfl)
      · rintro σ H2 ⟨P2, R2, o5, o6, rfl, sH2, hD2, hW2, hA2, hI2, hp2, hr2, sub2, old2, done2⟩
        refine ⟨P2, R2, _, _, _, rfl, sH2, hD2, hW2, hA2, hI2, fun i p hi e z hz => ?_⟩
        rcases Nat.lt_succ_iff_lt_or_eq.mp hi with h | h
        · exact sub2 _ (hC i p h (old2 i p h e) z hz)
        · subst h
          rw [hp2] at e
          cases e
          exact done2 z hz
    · refine iteDn (by rw [eWl]; omega) ?_
      exact ⟨P, R, _, _, _, rfl, sH, hD, hW, hA, hI, fun i p hi e z hz => hC i p (by have := (List.getElem?_eq_some_iff.mp e).1; omega) e z hz⟩
  · rintro σ H' ⟨P, R, o4, o5, o6, rfl, sH, hD, hW, hA, hI, hC⟩
    refine ⟨_, rfl, q _ d P R sH nd hD hA ⟨hI, fun x hx z hz => ?_⟩⟩
    obtain ⟨p, hp, rfl⟩ := List.mem_map.mp hx
    obtain ⟨i, hi⟩ := List.mem_iff_getElem?.mp hp
    have := (List.getElem?_eq_some_iff.mp hi).1
    have := hI.len
    exact hC i p (by omega) hi z hz
end
end K35
set_option maxHeartbeats 4000000
/-! The law's own twin: _law_new, _law_ahead, _law_do. -/
namespace K35
open PySem PySem.Spec PyProof.Rows L2
/-- the own twin's dict -/
def okv (a b c d e : Addr) (nu : Nat) : List (Key × V) :=
  [(Sum.inr "states", .ref a), (Sum.inr "copies", .ref b), (Sum.inr "marks", .ref c), (Sum.inr "kept", .ref d), (Sum.inr "heard", .ref e), (Sum.inr "numbers", vi nu), (Sum.inr "keeps", .bl true)]
/-- what a side has heard: deeds by their names -/
abbrev Hd := List (Nat × Nat)
def kH (h : Hd) : List (Key × V) := h.map fun p => (kx p.1, vi p.2)
structure OwnA (H : Hp) (o a b c d e l0 l1 : Addr) (nu : Nat) (s : Tw) (h0 h1 : Hd) : Prop where
  ho : H o = some (.dK (okv a b c d e nu))
  ha : H a = some (.lst [vi s.s0, vi s.s1])
  hb : H b = some (.lst [vi s.c0, vi s.c1])
  hc : H c = some (.lst [vi s.m0, vi s.m1])
  hd : H d = some (.lst [s.k0, s.k1])
  he : H e = some (.lst [.ref l0, .ref l1])
  hl0 : H l0 = some (.dK (kH h0))
  hl1 : H l1 = some (.dK (kH h1))
  nd : [a, b, c, d, e].Nodup
  ll : l0 ≠ l1
  lo0 : l0 ≠ o
  lo1 : l1 ≠ o
def SameOut (L : List Addr) (H H' : Hp) : Prop := ∀ b u, b ∉ L → H b = some u → H' b = some u
theorem OwnA.same {H H' : Hp} {o a b c d e l0 l1 : Addr} {nu : Nat} {s : Tw} {h0 h1 : Hd} (h : OwnA H o a b c d e l0 l1 nu s h0 h1) (k : ∀ x u, ((∃ xs, u = .lst xs) ∨ ∃ kvs, u = .dK kvs) → x ∈ [o, a, b, c, d, e, l0, l1] → H x = some u → H' x = some u) : OwnA H' o a b c d e l0 l1 nu s h0 h1 :=
  ⟨k _ _ (.inr ⟨_, rfl⟩) (by simp) h.ho, k _ _ (.inl ⟨_, rfl⟩) (by simp) h.ha, k _ _ (.inl ⟨_, rfl⟩) (by simp) h.hb, k _ _ (.inl ⟨_, rfl⟩) (by simp) h.hc, k _ _ (.inl ⟨_, rfl⟩) (by simp) h.hd, k _ _ (.inl ⟨_, rfl⟩) (by simp) h.he, k _ _ (.inr ⟨_, rfl⟩) (by simp) h.hl0, k _ _ (.inr ⟨_, rfl⟩) (by simp) h.hl1, h.nd, h.ll, h.lo0, h.lo1⟩
section
variable {w : World} {K : PySem.W.Frag} {mg : Str → Option Value} {base : Heap}
def spNew : Sp := fun vs H Q _ => ∃ f nu : Nat, vs = [vi f, vi nu, .bl true] ∧
  ∀ H' o a b c d e l0 l1, Same H H' → (∀ x ∈ [a, b, c, d, e], H x = none) → OwnA H' o a b c d e l0 l1 nu ⟨f, f, f, f, 0, 0, .non, .non⟩ [] [] → Q (.ref o) H'
abbrev N_law_new : List Str := ["_law_first", "_law_numbers", "_law_keeps", "_law_own"]
theorem sc_law_new : FnScope N_law_new ["_law_first", "_law_numbers", "_law_keeps"] (defScope s_law_new) := ⟨rfl, rfl, rfl, by decide +kernel, rfl, by decide +kernel, by decide +kernel⟩
theorem ok_law_new {f : Addr} {fd : FuncData} (F : Fd K "_law_new" "_law_new" s_law_new f fd) : FnOk Pg w K mg base (L2.CX Pg w) 1 f fd ["_law_first", "_law_numbers", "_law_keeps"] spNew := by
  refine F.ok sc_law_new (fun vs H Q E ⟨f, nu, e, _⟩ => by rw [e] <;> rfl) fun cdv A outer s0 H vs Q E hr ⟨f, nu, ev, q⟩ => ?_
  subst ev
  refine ⟨_, (pss_cons (ps_set (i := 3) sc_law_new.nd rfl (Or.inl rfl) (pe_disp (pps_cons pe_str (pe_lst (pa_cons (pv 0) (pa_cons (pv 0) pa_nil))) (pps_cons pe_str (pe_lst (pa_cons (pv 0) (pa_cons (pv 0) pa_nil))) (pps_cons pe_str (pe_lst (pa_cons pe_int (pa_cons pe_int pa_nil))) (pps_cons pe_str (pe_lst (pa_cons pe_non (pa_cons pe_non pa_nil))) pps_nil)))) (by rfl) (by rfl) (fun z => by cases z) (by decide)))
  (pss_cons (ps_expr (pe_bm PySem.F.plainAttrs_dict PySem.F.slot_dict_update PySem.F.type_dict_update mt_update (pv 3) (pa_cons (pe_disp (pps_cons pe_str (pe_lst (pa_cons pe_dnewK (pa_cons pe_dnewK pa_nil))) (pps_cons pe_str (pv 1) (pps_cons pe_str (pv 2) pps_nil))) (by rfl) (by rfl) (fun z => by cases z) (by decide)) pa_nil)))
  (pss_one (ps_ret (pv 3))))), ?_⟩
  refine fun o no => ?_
  refine ⟨_, rfl, _, rfl, by show 2 ≤ sizeLine; decide, fun a na => ?_⟩
  refine ⟨_, rfl, _, rfl, by show 2 ≤ sizeLine; decide, fun b nb => ?_⟩
  refine ⟨by show 2 ≤ sizeLine; decide, fun c nc => ?_⟩
  refine ⟨by show 2 ≤ sizeLine; decide, fun d nd => ?_⟩
  obtain ⟨H1, e1⟩ : ∃ H1, H1 = upd H o (.dK []) := ⟨_, rfl⟩
  rw [← e1] at na nb nc nd ⊢
  obtain ⟨H2, e2⟩ : ∃ H2, H2 = upd H1 a (.lst [vi f, vi f]) := ⟨_, rfl⟩
  rw [← e2] at nb nc nd ⊢
  obtain ⟨H3, e3⟩ : ∃ H3, H3 = upd H2 b (.lst [vi f, vi f]) := ⟨_, rfl⟩
  rw [← e3] at nc nd ⊢
  obtain ⟨H4, e4⟩ : ∃ H4, H4 = upd H3 c (.lst [.int 0, .int 0]) := ⟨_, rfl⟩
  rw [← e4] at nd ⊢
  obtain ⟨H5, e5⟩ : ∃ H5, H5 = upd H4 d (.lst [.non, .non]) := ⟨_, rfl⟩
  rw [← e5]
  have o1 : H1 o = some (.dK []) := by rw [e1]; exact upd_same
  have oa := ne_of_none o1 na
  have o2 : H2 o = some (.dK []) := by rw [e2, upd_ne oa]; exact o1
  have a2 : H2 a = some (.lst [vi f, vi f]) := by rw [e2]; exact upd_same
  have ob := ne_of_none o2 nb
  have ab := ne_of_none a2 nb
  have o3 : H3 o = some (.dK []) := by rw [e3, upd_ne ob]; exact o2
  have a3 : H3 a = some (.lst [vi f, vi f]) := by rw [e3, upd_ne ab]; exact a2
  have b3 : H3 b = some (.lst [vi f, vi f]) := by rw [e3]; exact upd_same
  have oc := ne_of_none o3 nc
  have ac := ne_of_none a3 nc
  have bc := ne_of_none b3 nc
  have o4 : H4 o = some (.dK []) := by rw [e4, upd_ne oc]; exact o3
  have a4 : H4 a = some (.lst [vi f, vi f]) := by rw [e4, upd_ne ac]; exact a3
  have b4 : H4 b = some (.lst [vi f, vi f]) := by rw [e4, upd_ne bc]; exact b3
  have c4 : H4 c = some (.lst [vi 0, vi 0]) := by rw [e4]; exact upd_same
  have od := ne_of_none o4 nd
  have ad := ne_of_none a4 nd
  have bd := ne_of_none b4 nd
  have cd := ne_of_none c4 nd
  have o5 : H5 o = some (.dK []) := by rw [e5, upd_ne od]; exact o4
  have a5 : H5 a = some (.lst [vi f, vi f]) := by rw [e5, upd_ne ad]; exact a4
  have b5 : H5 b = some (.lst [vi f, vi f]) := by rw [e5, upd_ne bd]; exact b4
  have c5 : H5 c = some (.lst [vi 0, vi 0]) := by rw [e5, upd_ne cd]; exact c4
  have d5 : H5 d = some (.lst [.non, .non]) := by rw [e5]; exact upd_same
  have s1 : Same H H1 := by rw [e1]; exact Same.new no
  have s2 : Same H H2 := s1.trans (by rw [e2]; exact Same.new na)
  have s3 : Same H H3 := s2.trans (by rw [e3]; exact Same.new nb)
  have s4 : Same H H4 := s3.trans (by rw [e4]; exact Same.new nc)
  have s5 : Same H H5 := s4.trans (by rw [e5]; exact Same.new nd)
  have fa := s1.free na
  have fb := s2.free nb
  have fc := s3.free nc
  have fd' := s4.free nd
  clear e1 e2 e3 e4 e5 na nb nc nd o1 o2 o3 o4 a2 a3 a4 b3 b4 c4 s1 s2 s3 s4
  refine ⟨o5, [(Sum.inr "states", .ref a), (Sum.inr "copies", .ref b), (Sum.inr "marks", .ref c), (Sum.inr "kept", .ref d)], rfl, by show 4 ≤ 15; decide, ?_⟩
  obtain ⟨H6, e6⟩ : ∃ H6, H6 = upd H5 o (.dK [(Sum.inr "states", .ref a), (Sum.inr "copies", .ref b), (Sum.inr "marks", .ref c), (Sum.inr "kept", .ref d)]) := ⟨_, rfl⟩
  rw [show upd H5 o (.dK (mergeK [] [(Sum.inr "states", .ref a), (Sum.inr "copies", .ref b), (Sum.inr "marks", .ref c), (Sum.inr "kept", .ref d)])) = H6 from e6.symm]
  have o6 : H6 o = some (.dK [(Sum.inr "states", .ref a), (Sum.inr "copies", .ref b), (Sum.inr "marks", .ref c), (Sum.inr "kept", .ref d)]) := by rw [e6]; exact upd_same
  have a6 : H6 a = some (.lst [vi f, vi f]) := by rw [e6, upd_ne (Ne.symm oa)]; exact a5
  have b6 : H6 b = some (.lst [vi f, vi f]) := by rw [e6, upd_ne (Ne.symm ob)]; exact b5
  have c6 : H6 c = some (.lst [vi 0, vi 0]) := by rw [e6, upd_ne (Ne.symm oc)]; exact c5
  have d6 : H6 d = some (.lst [.non, .non]) := by rw [e6, upd_ne (Ne.symm od)]; exact d5
  have s6 : Same H H6 := fun b u e => by rw [e6, upd_ne (ne_of_none e no)]; exact s5 _ _ e
  clear e6 o5 a5 b5 c5 d5 s5
  refine ⟨_, rfl, .inr (.inr (.inl ⟨rfl, .inl ⟨_, o6⟩⟩)), ?_⟩
  refine fun m nm => fun l0 n0 => fun l1 n1 => ⟨by show 2 ≤ sizeLine; decide, fun e ne => ?_⟩
  have t1 : Same H6 (upd H6 m (.dK [])) := Same.new nm
  have t2 := t1.trans (Same.new (o := .dK []) n0)
  have t3 := t2.trans (Same.new (o := .dK []) n1)
  have t4 := t3.trans (Same.new (o := .lst [.ref l0, .ref l1]) ne)
  obtain ⟨H7, e7⟩ : ∃ H7, H7 = upd (upd (upd (upd H6 m (.dK [])) l0 (.dK [])) l1 (.dK [])) e (.lst [.ref l0, .ref l1]) := ⟨_, rfl⟩
  have ml0 : m ≠ l0 := fun z => by rw [← z, upd_same] at n0; cases n0
  have ml1 : m ≠ l1 := fun z => by rw [← z, upd_ne ml0, upd_same] at n1; cases n1
  have ll : l0 ≠ l1 := fun z => by rw [← z, upd_same] at n1; cases n1
  have l0e : l0 ≠ e := fun z => by rw [← z, upd_ne ll, upd_same] at ne; cases ne
  have l1e : l1 ≠ e := fun z => by rw [← z, upd_same] at ne; cases ne
  have me : m ≠ e := fun z => by rw [← z, upd_ne ml1, upd_ne ml0, upd_same] at ne; cases ne
  have m7 : H7 m = some (.dK []) := by rw [e7, upd_ne me, upd_ne ml1, upd_ne ml0, upd_same]
  have x0 : H7 l0 = some (.dK []) := by rw [e7, upd_ne l0e, upd_ne ll, upd_same]
  have x1 : H7 l1 = some (.dK []) := by rw [e7, upd_ne l1e, upd_same]
  have xe : H7 e = some (.lst [.ref l0, .ref l1]) := by rw [e7, upd_same]
  have fe := s6.free (t3.free ne)
  have tt : Same H6 H7 := by rw [e7]; exact t4
  have om : m ≠ o := Ne.symm (ne_of_none o6 nm)
  have fm := s6.free nm
  have l0o : l0 ≠ o := Ne.symm (ne_of_none (t1 _ _ o6) n0)
  have l1o : l1 ≠ o := Ne.symm (ne_of_none (t2 _ _ o6) n1)
  have ae := ne_of_none (t3 _ _ a6) ne
  have be := ne_of_none (t3 _ _ b6) ne
  have ce := ne_of_none (t3 _ _ c6) ne
  have de := ne_of_none (t3 _ _ d6) ne
  rw [← e7]
  clear e7 nm n0 n1 ne t1 t2 t3 t4
  refine ⟨_, rfl, _, rfl, m7, [(Sum.inr "heard", .ref e), (Sum.inr "numbers", vi nu), (Sum.inr "keeps", .bl true)], rfl, by show 3 ≤ 15; decide, ?_⟩
  refine ⟨o, m, _, _, rfl, rfl, (upd_ne (Ne.symm om)).trans (tt _ _ o6), upd_same, Ne.symm om, by show 4 + 3 ≤ sizeLine; decide, ?_⟩
  refine ⟨_, rfl, ?_⟩
  have kp : ∀ {x : Addr} {u : HO}, x ≠ o → x ≠ m → H7 x = some u → upd (upd H7 m (.dK (mergeK [] [(Sum.inr "heard", .ref e), (Sum.inr "numbers", vi nu), (Sum.inr "keeps", .bl true)]))) o (.dK (mergeK [(Sum.inr "states", .ref a), (Sum.inr "copies", .ref b), (Sum.inr "marks", .ref c), (Sum.inr "kept", .ref d)] (mergeK [] [(Sum.inr "heard", .ref e), (Sum.inr "numbers", vi nu), (Sum.inr "keeps", .bl true)]))) x = some u :=
    fun h1 h2 h => (upd_ne h1).trans ((upd_ne h2).trans h)
  have am : a ≠ m := ne_of (tt _ _ a6) m7 (by intro z; cases z)
  have bm : b ≠ m := ne_of (tt _ _ b6) m7 (by intro z; cases z)
  have cm : c ≠ m := ne_of (tt _ _ c6) m7 (by intro z; cases z)
  have dm : d ≠ m := ne_of (tt _ _ d6) m7 (by intro z; cases z)
  have eo : e ≠ o := ne_of xe (tt _ _ o6) (by intro z; cases z)
  refine q _ o a b c d e l0 l1 (fun x u h => ?_) ?_ ⟨?_, kp (Ne.symm oa) am (tt _ _ a6), kp (Ne.symm ob) bm (tt _ _ b6), kp (Ne.symm oc) cm (tt _ _ c6), kp (Ne.symm od) dm (tt _ _ d6), kp eo (Ne.symm me) xe, kp l0o (Ne.symm ml0) x0, kp l1o (Ne.symm ml1) x1, ?_, ll, l0o, l1o⟩
  · have hx := s6 _ _ h
    have xm : x ≠ m := ne_of_none h fm
    exact kp (ne_of_none h no) xm (tt _ _ hx)
  · intro x hx
    simp only [List.mem_cons, List.not_mem_nil, or_false] at hx
    rcases hx with rfl | rfl | rfl | rfl | rfl <;> assumption
  · rw [upd_same] <;> rfl
  · simp only [List.nodup_cons, List.mem_cons, List.not_mem_nil, or_false, not_or, List.nodup_nil, and_true, not_false_eq_true]
    exact ⟨⟨ab, ac, ad, ae⟩, ⟨bc, bd, be⟩, ⟨cd, ce⟩, de⟩
/-! ### what the own twin's dict answers -/
section
variable {H : Hp} {o a b c d e l0 l1 : Addr} {nu : Nat} {s : Tw} {h0 h1 : Hd}
theorem OwnA.states (h : OwnA H o a b c d e l0 l1 nu s h0 h1) : DGet H o (.str "states") (some (.ref a)) := DGet.k (k := Sum.inr "states") h.ho
theorem OwnA.copies (h : OwnA H o a b c d e l0 l1 nu s h0 h1) : DGet H o (.str "copies") (some (.ref b)) := DGet.k (k := Sum.inr "copies") h.ho
theorem OwnA.marks (h : OwnA H o a b c d e l0 l1 nu s h0 h1) : DGet H o (.str "marks") (some (.ref c)) := DGet.k (k := Sum.inr "marks") h.ho
theorem OwnA.kept (h : OwnA H o a b c d e l0 l1 nu s h0 h1) : DGet H o (.str "kept") (some (.ref d)) := DGet.k (k := Sum.inr "kept") h.ho
theorem OwnA.heard (h : OwnA H o a b c d e l0 l1 nu s h0 h1) : DGet H o (.str "heard") (some (.ref e)) := DGet.k (k := Sum.inr "heard") h.ho
theorem OwnA.numbers (h : OwnA H o a b c d e l0 l1 nu s h0 h1) : DGet H o (.str "numbers") (some (vi nu)) := DGet.k (k := Sum.inr "numbers") h.ho
theorem OwnA.keeps (h : OwnA H o a b c d e l0 l1 nu s h0 h1) : DGet H o (.str "keeps") (some (.bl true)) := DGet.k (k := Sum.inr "keeps") h.ho
end
/-! ### _law_ahead -/
def spOAhead : Sp := fun vs H Q _ => ∃ (o a b c d e l0 l1 : Addr) (nu : Nat) (s : Tw) (h0 h1 : Hd), vs = [.ref o] ∧ OwnA H o a b c d e l0 l1 nu s h0 h1 ∧ (nu = 2 ∨ nu = 3) ∧ Q (aheadV nu s.m0 s.m1) H
abbrev N_law_ahead : List Str := ["_law_own", "_law_copies", "_law_marks", "_law_gap"]
theorem sc_law_ahead : FnScope N_law_ahead ["_law_own"] (defScope s_law_ahead) := ⟨rfl, rfl, rfl, by decide +kernel, rfl, by decide +kernel, by decide +kernel⟩
theorem ok_law_ahead {f : Addr} {fd : FuncData} (F : Fd K "_law_ahead" "_law_ahead" s_law_ahead f fd) (B : Bu mg) : FnOk Pg w K mg base (L2.CX Pg w) 1 f fd ["_law_own"] spOAhead := by
  refine F.ok sc_law_ahead (fun vs H Q E ⟨o, a, b, c, d, e, l0, l1, nu, s, h0, h1, ev, _⟩ => by rw [ev] <;> rfl) fun cdv A outer s0 H vs Q E hr ⟨o, a, b, c, d, e, l0, l1, nu, s, h0, h1, ev, h, hn, q⟩ => ?_
  subst ev
  refine ⟨_, (pss_cons (ps_par (i := 1) (j := 2) (by rfl) sc_law_ahead.nd rfl rfl (by decide) rfl rfl (pa_cons (pe_dget (hu_of hr) (pv 0) pe_str (fun _ _ => rfl)) (pa_cons (pe_dget (hu_of hr) (pv 0) pe_str (fun _ _ => rfl)) pa_nil)) (by rfl))
  (pss_cons (ps_if (pt_cmpR op_eq (pe_dget (hu_of hr) (pv 0) pe_str (fun _ _ => rfl)) pe_int (nomark _)) (pss_one (ps_ret (pe_ifExp (pt_cmpR op_ne (pe_ix ix_list (pv 1) pe_int (fun _ _ => rfl)) (pe_ix ix_list (pv 1) pe_int (fun _ _ => rfl)) (nomark _)) pe_int pe_non))) pss_nil)
  (pss_cons (ps_set (i := 3) sc_law_ahead.nd rfl (Or.inl rfl) (pe_op op_modN (pe_callTy (T := "int") call_int1 (by rfl) B.int (by decide +kernel) (pa_cons (pe_op op_sub (pe_ix ix_list (pv 2) pe_int (fun _ _ => rfl)) (pe_ix ix_list (pv 2) pe_int (fun _ _ => rfl))) pa_nil)) (pe_dget (hu_of hr) (pv 0) pe_str (fun _ _ => rfl))))
  (pss_one (ps_ret (pe_ifExp (pt_cmpR op_eq (pv 3) pe_int (nomark _)) pe_non (pe_ifExp (pt_cmpR op_eq (pv 3) pe_int (nomark _)) pe_int pe_int))))))), ?_⟩
  refine ⟨_, rfl, o, _, rfl, h.copies, _, rfl, o, _, rfl, h.marks, _, _, rfl, ?_⟩
  refine ⟨_, rfl, o, _, rfl, h.numbers, rfl, _, rfl, ?_⟩
  refine iteDn (fun z => by injection z with z; omega) ?_
  refine ⟨_, rfl, c, _, _, _, rfl, rfl, SqL.of h.hc, at0 rfl, _, rfl, c, _, _, _, rfl, rfl, SqL.of h.hc, at1 rfl, _, _, rfl, rfl, .inl ⟨_, rfl, _, rfl, o, _, rfl, h.numbers, _, _, rfl, rfl, by omega, ?_⟩⟩
  refine ⟨_, rfl, rfl, _, rfl, ?_⟩
  by_cases g0 : gapI nu s.m0 s.m1 = 0
  · refine iteD (show V.int (gapI nu s.m0 s.m1) = .int 0 by rw [g0]) ?_
    have e : aheadV nu s.m0 s.m1 = .non := if_pos g0
    rw [e] at q
    exact q
  · refine iteDn (show ¬ V.int (gapI nu s.m0 s.m1) = .int 0 from fun e => g0 (by injection e)) ?_
    refine ⟨_, rfl, rfl, _, rfl, ?_⟩
    by_cases g1 : gapI nu s.m0 s.m1 = 1
    · refine iteD (show V.int (gapI nu s.m0 s.m1) = .int 1 by rw [g1]) ?_
      have e : aheadV nu s.m0 s.m1 = .int 0 := (if_neg g0).trans (if_pos g1)
      rw [e] at q
      exact q
    · refine iteDn (show ¬ V.int (gapI nu s.m0 s.m1) = .int 1 from fun e => g1 (by injection e)) ?_
      have e : aheadV nu s.m0 s.m1 = .int 1 := (if_neg g0).trans (if_neg g1)
      rw [e] at q
      exact q
/-! ### _law_do -/
theorem valH_none {h : Hd} {k : Nat} (hk : k ∉ h.map Prod.fst) : valV (kH h) (kx k) = none := by
  induction h with
  | nil => rfl
  | cons p r ih =>
    have e : valV (kH (p :: r)) (kx k) = valV (kH r) (kx k) := valV_neg (p := (kx p.1, vi p.2)) (fun z => hk (by rw [← kx_inj z]; exact List.mem_cons_self ..))
    rw [e]
    exact ih fun z => hk (List.mem_cons_of_mem _ z)
theorem kH_snoc (h : Hd) (p : Nat × Nat) : kH (h ++ [p]) = kH h ++ [(kx p.1, vi p.2)] := by
  unfold kH
  rw [List.map_append] <;> rfl
def Hd.add (h : Hd) (x : Nat × Nat) : Hd := h ++ [x]
def addH (side : Nat) (x : Nat × Nat) (h0 h1 : Hd) : Hd × Hd := (if side = 0 then h0 ++ [x] else h0, if side = 0 then h1 else h1 ++ [x])
def spODo : Sp := fun vs H Q _ => ∃ (tb o a b c d e l0 l1 : Addr) (nu : Nat) (s : Tw) (h0 h1 : Hd) (as : List Addr) (T : List (List Nat)) (n side deed name : Nat), vs = [.ref tb, .ref o, vi side, vi deed, vi name] ∧ OwnA H o a b c d e l0 l1 nu s h0 h1 ∧
  H tb = some (.lst (as.map V.ref)) ∧ tb ≠ a ∧ RowsAt H as T ∧ TabOk T n ∧ s.s0 < n ∧ s.s1 < n ∧ side ≤ 1 ∧ deed < T.length ∧ name ∉ h0.map Prod.fst ∧ name ∉ h1.map Prod.fst ∧ h0.length ≤ 900 ∧ h1.length ≤ 900 ∧
  ∀ H', SameOut [a, l0, l1] H H' → OwnA H' o a b c d e l0 l1 nu (s.setS side (stp T deed (s.st side))) (addH side (name, deed) h0 h1).1 (addH side (name, deed) h0 h1).2 → Q .non H'
abbrev N_law_do : List Str := ["_law_tables", "_law_own", "_law_side", "_law_deed", "_law_name", "_law_states", "_law_heard_here", "_law_lot"]
theorem sc_law_do : FnScope N_law_do ["_law_tables", "_law_own", "_law_side", "_law_deed", "_law_name"] (defScope s_law_do) := ⟨rfl, rfl, rfl, by decide +kernel, rfl, by decide +kernel, by decide +kernel⟩
theorem ok_law_do {f : Addr} {fd : FuncData} (F : Fd K "_law_do" "_law_do" s_law_do f fd) : FnOk Pg w K mg base (L2.CX Pg w) 1 f fd ["_law_tables", "_law_own", "_law_side", "_law_deed", "_law_name"] spODo := by
  refine F.ok sc_law_do (fun vs H Q E ⟨tb, o, a, b, c, d, e, l0, l1, nu, s, h0, h1, as, T, n, side, deed, name, ev, _⟩ => by rw [ev] <;> rfl) fun cdv A outer s0 H vs Q E hr ⟨tb, o, a, b, c, d, e, l0, l1, nu, s, h0, h1, as, T, n, side, deed, name, ev, h, htb, hta, hR, hT, x0, x1, hsd, hde, n0, n1, z0, z1, q⟩ => ?_
  subst ev
  refine ⟨_, (pss_cons (ps_par (i := 5) (j := 6) (by rfl) sc_law_do.nd rfl rfl (by decide) rfl rfl (pa_cons (pe_dget (hu_of hr) (pv 1) pe_str (fun _ _ => rfl)) (pa_cons (pe_dget (hu_of hr) (pv 1) pe_str (fun _ _ => rfl)) pa_nil)) (by rfl))
  (pss_cons (ps_asg (pe_ix ix_tup (pe_ix ix_list (pv 0) (pv 3) (fun _ _ => rfl)) (pe_ix ix_list (pv 5) (pv 2) (fun _ _ => rfl)) (fun _ _ => rfl)) (pg_sub (pv 5) (pv 2) set_list))
  (pss_cons (ps_set (i := 7) sc_law_do.nd rfl (Or.inl rfl) (pe_ix ix_list (pv 6) (pv 2) (fun _ _ => rfl)))
  (pss_one (ps_dput (hu_of hr) (pv 7) (pv 4) (pv 3) rfl))))), ?_⟩
  obtain ⟨p, r, e1, f1, g1⟩ := hR.get hde
  have hst : s.st side < n := by
    unfold Tw.st
    split
    · exact x0
    · exact x1
  obtain ⟨hy, hyn⟩ := hT.at f1 hst
  have hix : ([vi s.s0, vi s.s1] : List V)[side]? = some (vi (s.st side)) := by
    rcases Nat.le_one_iff_eq_zero_or_eq_one.mp hsd with e | e <;> (rw [e] <;> rfl)
  have hix2 : ([.ref l0, .ref l1] : List V)[side]? = some (.ref (if side = 0 then l0 else l1)) := by
    rcases Nat.le_one_iff_eq_zero_or_eq_one.mp hsd with e | e <;> (rw [e] <;> rfl)
  have hset : ixN ([vi s.s0, vi s.s1] : List V).length (side : Int) = some side := by
    rcases Nat.le_one_iff_eq_zero_or_eq_one.mp hsd with e | e <;> (rw [e] <;> rfl)
  refine ⟨_, rfl, o, _, rfl, h.states, _, rfl, o, _, rfl, h.heard, _, _, rfl, ?_⟩
  refine ⟨_, rfl, _, rfl, tb, _, _, _, rfl, rfl, SqL.of htb, atI_nat (by rw [List.getElem?_map, e1] <;> rfl), ?_⟩
  refine ⟨_, rfl, _, rfl, a, _, _, _, rfl, rfl, SqL.of h.ha, atI_nat hix, p, _, _, _, rfl, rfl, SqT.of g1, atI_nat hy, ?_⟩
  refine ⟨_, rfl, _, rfl, a, _, _, side, rfl, rfl, h.ha, hset, ?_⟩
  have ea : e ≠ a := fun z => by have := h.nd; simp [z] at this
  have lla : ∀ {x : Addr} {kvs : List (Key × V)}, H x = some (.dK kvs) → x ≠ a := fun hx => ne_of hx h.ha (by intro z; cases z)
  refine ⟨_, rfl, _, rfl, e, _, _, _, rfl, rfl, SqL.of ((upd_ne ea).trans h.he), atI_nat hix2, ?_⟩
  have nd := h.nd
  simp only [List.nodup_cons, List.mem_cons, List.not_mem_nil, or_false, not_or, List.nodup_nil, and_true, not_false_eq_true] at nd
  obtain ⟨⟨ab, ac, ad, ae⟩, ⟨bc, bd, be⟩, ⟨cd, ce⟩, de⟩ := nd
  have ll := h.ll
  rcases Nat.le_one_iff_eq_zero_or_eq_one.mp hsd with e0 | e0
  · subst e0
    have hl := (upd_ne (o := .lst [vi (stp T deed (s.st 0)), vi s.s1]) (lla h.hl0)).trans h.hl0
    refine ⟨_, rfl, _, rfl, _, rfl, l0, _, rfl, DPut.k (k := kx name) hl (small1000 (by unfold kH; rw [List.length_map]; omega)), ?_⟩
    rw [putK_new _ (valH_none n0), ← kH_snoc h0 (name, deed)]
    have kp : ∀ {x : Addr} {u : HO}, x ≠ a → x ≠ l0 → H x = some u → upd (upd H a (.lst [vi (stp T deed (s.st 0)), vi s.s1])) l0 (.dK (kH (h0 ++ [(name, deed)]))) x = some u := fun h1 h2 h => (upd_ne h2).trans ((upd_ne h1).trans h)
    have lne : ∀ {x : Addr} {xs : List V}, H x = some (.lst xs) → x ≠ l0 := fun hx => ne_of hx h.hl0 (by intro z; cases z)
    refine q _ (fun x u hx hu => kp (fun z => hx (by simp [z])) (fun z => hx (by simp [z])) hu) ⟨kp (lla h.ho) (Ne.symm h.lo0) h.ho, (upd_ne (lne h.ha)).trans upd_same, kp (Ne.symm ab) (lne h.hb) h.hb, kp (Ne.symm ac) (lne h.hc) h.hc, kp (Ne.symm ad) (lne h.hd) h.hd, kp (Ne.symm ae) (lne h.he) h.he, upd_same, kp (lla h.hl1) (Ne.symm ll) h.hl1, h.nd, h.ll, h.lo0, h.lo1⟩
  · subst e0
    have hl := (upd_ne (o := .lst [vi s.s0, vi (stp T deed (s.st 1))]) (lla h.hl1)).trans h.hl1
    refine ⟨_, rfl, _, rfl, _, rfl, l1, _, rfl, DPut.k (k := kx name) hl (small1000 (by unfold kH; rw [List.length_map]; omega)), ?_⟩
    rw [putK_new _ (valH_none n1), ← kH_snoc h1 (name, deed)]
    have kp : ∀ {x : Addr} {u : HO}, x ≠ a → x ≠ l1 → H x = some u → upd (upd H a (.lst [vi s.s0, vi (stp T deed (s.st 1))])) l1 (.dK (kH (h1 ++ [(name, deed)]))) x = some u := fun h1 h2 h => (upd_ne h2).trans ((upd_ne h1).trans h)
    have lne : ∀ {x : Addr} {xs : List V}, H x = some (.lst xs) → x ≠ l1 := fun hx => ne_of hx h.hl1 (by intro z; cases z)
    refine q _ (fun x u hx hu => kp (fun z => hx (by simp [z])) (fun z => hx (by simp [z])) hu) ⟨kp (lla h.ho) (Ne.symm h.lo1) h.ho, (upd_ne (lne h.ha)).trans upd_same, kp (Ne.symm ab) (lne h.hb) h.hb, kp (Ne.symm ac) (lne h.hc) h.hc, kp (Ne.symm ad) (lne h.hd) h.hd, kp (Ne.symm ae) (lne h.he) h.he, kp (lla h.hl0) ll h.hl0, upd_same, h.nd, h.ll, h.lo0, h.lo1⟩
end
end K35
set_option maxHeartbeats 4000000
/-! The law's _law_meet. -/
namespace K35
open PySem PySem.Spec PyProof.Rows L2
structure OwnL (H : Hp) (o a b c d e l0 l1 : Addr) (nu : Nat) (S C M N : List V) (D0 D1 : List (Key × V)) : Prop where
  ho : H o = some (.dK (okv a b c d e nu))
  ha : H a = some (.lst S)
  hb : H b = some (.lst C)
  hc : H c = some (.lst M)
  hd : H d = some (.lst N)
  he : H e = some (.lst [.ref l0, .ref l1])
  hl0 : H l0 = some (.dK D0)
  hl1 : H l1 = some (.dK D1)
  nd : [a, b, c, d, e].Nodup
  lo0 : l0 ≠ o
  lo1 : l1 ≠ o
theorem OwnA.l {H : Hp} {o a b c d e l0 l1 : Addr} {nu : Nat} {s : Tw} {h0 h1 : Hd} (h : OwnA H o a b c d e l0 l1 nu s h0 h1) : OwnL H o a b c d e l0 l1 nu [vi s.s0, vi s.s1] [vi s.c0, vi s.c1] [vi s.m0, vi s.m1] [s.k0, s.k1] (kH h0) (kH h1) :=
  ⟨h.ho, h.ha, h.hb, h.hc, h.hd, h.he, h.hl0, h.hl1, h.nd, h.lo0, h.lo1⟩
section
variable {H H' : Hp} {o a b c d e l0 l1 : Addr} {nu : Nat} {S C M N : List V} {D0 D1 : List (Key × V)}
theorem OwnL.same (h : OwnL H o a b c d e l0 l1 nu S C M N D0 D1) (s : Same H H') : OwnL H' o a b c d e l0 l1 nu S C M N D0 D1 :=
  ⟨s _ _ h.ho, s _ _ h.ha, s _ _ h.hb, s _ _ h.hc, s _ _ h.hd, s _ _ h.he, s _ _ h.hl0, s _ _ h.hl1, h.nd, h.lo0, h.lo1⟩
theorem OwnL.ne (h : OwnL H o a b c d e l0 l1 nu S C M N D0 D1) : (a ≠ b ∧ a ≠ c ∧ a ≠ d ∧ a ≠ e) ∧ (b ≠ c ∧ b ≠ d ∧ b ≠ e) ∧ (c ≠ d ∧ c ≠ e) ∧ d ≠ e := by
  have nd := h.nd
  simpa only [List.nodup_cons, List.mem_cons, List.not_mem_nil, or_false, not_or, List.nodup_nil, and_true, not_false_eq_true] using nd
theorem lst_ne {x y : Addr} {xs : List V} {kvs : List (Key × V)} (h1 : H x = some (.lst xs)) (h2 : H y = some (.dK kvs)) : x ≠ y := ne_of h1 h2 (by intro z; cases z)
theorem OwnL.a1 (h : OwnL H o a b c d e l0 l1 nu S C M N D0 D1) (S' : List V) : OwnL (upd H a (.lst S')) o a b c d e l0 l1 nu S' C M N D0 D1 := by
  obtain ⟨⟨ab, ac, ad, ae⟩, ⟨bc, bd, be⟩, ⟨cd, ce⟩, de⟩ := h.ne
  exact ⟨(upd_ne (Ne.symm (lst_ne h.ha h.ho))).trans h.ho, upd_same, (upd_ne (Ne.symm ab)).trans h.hb, (upd_ne (Ne.symm ac)).trans h.hc, (upd_ne (Ne.symm ad)).trans h.hd, (upd_ne (Ne.symm ae)).trans h.he, (upd_ne (Ne.symm (lst_ne h.ha h.hl0))).trans h.hl0, (upd_ne (Ne.symm (lst_ne h.ha h.hl1))).trans h.hl1, h.nd, h.lo0, h.lo1⟩
theorem OwnL.b1 (h : OwnL H o a b c d e l0 l1 nu S C M N D0 D1) (S' : List V) : OwnL (upd H b (.lst S')) o a b c d e l0 l1 nu S S' M N D0 D1 := by
  obtain ⟨⟨ab, ac, ad, ae⟩, ⟨bc, bd, be⟩, ⟨cd, ce⟩, de⟩ := h.ne
  exact ⟨(upd_ne (Ne.symm (lst_ne h.hb h.ho))).trans h.ho, (upd_ne ab).trans h.ha, upd_same, (upd_ne (Ne.symm bc)).trans h.hc, (upd_ne (Ne.symm bd)).trans h.hd, (upd_ne (Ne.symm be)).trans h.he, (upd_ne (Ne.symm (lst_ne h.hb h.hl0))).trans h.hl0, (upd_ne (Ne.symm (lst_ne h.hb h.hl1))).trans h.hl1, h.nd, h.lo0, h.lo1⟩
theorem OwnL.c1 (h : OwnL H o a b c d e l0 l1 nu S C M N D0 D1) (S' : List V) : OwnL (upd H c (.lst S')) o a b c d e l0 l1 nu S C S' N D0 D1 := by
  obtain ⟨⟨ab, ac, ad, ae⟩, ⟨bc, bd, be⟩, ⟨cd, ce⟩, de⟩ := h.ne
  exact ⟨(upd_ne (Ne.symm (lst_ne h.hc h.ho))).trans h.ho, (upd_ne ac).trans h.ha, (upd_ne bc).trans h.hb, upd_same, (upd_ne (Ne.symm cd)).trans h.hd, (upd_ne (Ne.symm ce)).trans h.he, (upd_ne (Ne.symm (lst_ne h.hc h.hl0))).trans h.hl0, (upd_ne (Ne.symm (lst_ne h.hc h.hl1))).trans h.hl1, h.nd, h.lo0, h.lo1⟩
theorem OwnL.d1 (h : OwnL H o a b c d e l0 l1 nu S C M N D0 D1) (S' : List V) : OwnL (upd H d (.lst S')) o a b c d e l0 l1 nu S C M S' D0 D1 := by
  obtain ⟨⟨ab, ac, ad, ae⟩, ⟨bc, bd, be⟩, ⟨cd, ce⟩, de⟩ := h.ne
  exact ⟨(upd_ne (Ne.symm (lst_ne h.hd h.ho))).trans h.ho, (upd_ne ad).trans h.ha, (upd_ne bd).trans h.hb, (upd_ne cd).trans h.hc, upd_same, (upd_ne (Ne.symm de)).trans h.he, (upd_ne (Ne.symm (lst_ne h.hd h.hl0))).trans h.hl0, (upd_ne (Ne.symm (lst_ne h.hd h.hl1))).trans h.hl1, h.nd, h.lo0, h.lo1⟩
theorem OwnL.e1 (h : OwnL H o a b c d e l0 l1 nu S C M N D0 D1) {m0 m1 : Addr} {E0 E1 : List (Key × V)} (h0 : H m0 = some (.dK E0)) (h1 : H m1 = some (.dK E1)) (o0 : m0 ≠ o) (o1 : m1 ≠ o) : OwnL (upd H e (.lst [.ref m0, .ref m1])) o a b c d e m0 m1 nu S C M N E0 E1 := by
  obtain ⟨⟨ab, ac, ad, ae⟩, ⟨bc, bd, be⟩, ⟨cd, ce⟩, de⟩ := h.ne
  exact ⟨(upd_ne (Ne.symm (lst_ne h.he h.ho))).trans h.ho, (upd_ne ae).trans h.ha, (upd_ne be).trans h.hb, (upd_ne ce).trans h.hc, (upd_ne de).trans h.hd, upd_same, (upd_ne (Ne.symm (lst_ne h.he h0))).trans h0, (upd_ne (Ne.symm (lst_ne h.he h1))).trans h1, h.nd, o0, o1⟩
theorem OwnL.states (h : OwnL H o a b c d e l0 l1 nu S C M N D0 D1) : DGet H o (.str "states") (some (.ref a)) := DGet.k (k := Sum.inr "states") h.ho
theorem OwnL.copies (h : OwnL H o a b c d e l0 l1 nu S C M N D0 D1) : DGet H o (.str "copies") (some (.ref b)) := DGet.k (k := Sum.inr "copies") h.ho
theorem OwnL.marks (h : OwnL H o a b c d e l0 l1 nu S C M N D0 D1) : DGet H o (.str "marks") (some (.ref c)) := DGet.k (k := Sum.inr "marks") h.ho
theorem OwnL.kept (h : OwnL H o a b c d e l0 l1 nu S C M N D0 D1) : DGet H o (.str "kept") (some (.ref d)) := DGet.k (k := Sum.inr "kept") h.ho
theorem OwnL.heard (h : OwnL H o a b c d e l0 l1 nu S C M N D0 D1) : DGet H o (.str "heard") (some (.ref e)) := DGet.k (k := Sum.inr "heard") h.ho
theorem OwnL.numbers (h : OwnL H o a b c d e l0 l1 nu S C M N D0 D1) : DGet H o (.str "numbers") (some (vi nu)) := DGet.k (k := Sum.inr "numbers") h.ho
theorem OwnL.keeps (h : OwnL H o a b c d e l0 l1 nu S C M N D0 D1) : DGet H o (.str "keeps") (some (.bl true)) := DGet.k (k := Sum.inr "keeps") h.ho
end
section
variable {x y v : V} {side : Nat}
theorem ix2 (h : side ≤ 1) : ixN ([x, y] : List V).length (side : Int) = some side := by
  rcases Nat.le_one_iff_eq_zero_or_eq_one.mp h with e | e <;> (rw [e] <;> rfl)
theorem ix2' (h : side ≤ 1) : ixN ([x, y] : List V).length (1 - (side : Int)) = some (1 - side) := by
  rcases Nat.le_one_iff_eq_zero_or_eq_one.mp h with e | e <;> (rw [e] <;> rfl)
theorem at2 (h : side ≤ 1) : atI [x, y] (side : Int) = some (if side = 0 then x else y) := by
  rcases Nat.le_one_iff_eq_zero_or_eq_one.mp h with e | e
  · rw [e]
    exact at_of (j := 0) rfl rfl
  · rw [e]
    exact at_of (j := 1) rfl rfl
theorem at2' (h : side ≤ 1) : atI [x, y] (1 - (side : Int)) = some (if side = 0 then y else x) := by
  rcases Nat.le_one_iff_eq_zero_or_eq_one.mp h with e | e
  · rw [e]
    exact at_of (j := 1) rfl rfl
  · rw [e]
    exact at_of (j := 0) rfl rfl
theorem set2 (h : side ≤ 1) : ([x, y] : List V).set side v = if side = 0 then [v, y] else [x, v] := by
  rcases Nat.le_one_iff_eq_zero_or_eq_one.mp h with e | e <;> (rw [e] <;> rfl)
theorem set2' (h : side ≤ 1) : ([x, y] : List V).set (1 - side) v = if side = 0 then [x, v] else [v, y] := by
  rcases Nat.le_one_iff_eq_zero_or_eq_one.mp h with e | e <;> (rw [e] <;> rfl)
end
theorem SameOut.trans {L : List Addr} {H H1 H2 : Hp} (a : SameOut L H H1) (b : SameOut L H1 H2) : SameOut L H H2 := fun x u hx h => b x u hx (a x u hx h)
theorem SameOut.upd {L : List Addr} {H : Hp} {p : Addr} {u : HO} (h : p ∈ L) : SameOut L H (L2.upd H p u) := fun x v hx e => (upd_ne (fun z => hx (by rw [z]; exact h))).trans e
theorem SameOut.of {L : List Addr} {H H' : Hp} (s : Same H H') : SameOut L H H' := fun x u _ e => s x u e
section
variable {w : World} {K : PySem.W.Frag} {mg : Str → Option Value} {base : Heap}
def metH (side : Nat) (wh : Bool) (U h0 h1 : Hd) : Hd × Hd := (if wh = true ∨ side = 0 then U else h0, if wh = true ∨ side ≠ 0 then U else h1)
def spOMeet : Sp := fun vs H Q _ => ∃ (tb o a b c d e l0 l1 : Addr) (nu : Nat) (s : Tw) (h0 h1 U : Hd) (as : List Addr) (T : List (List Nat)) (n side : Nat) (wh : Bool) (bs z : Nat), vs = [.ref tb, .ref o, vi side, .bl wh] ∧ OwnA H o a b c d e l0 l1 nu s h0 h1 ∧
  H tb = some (.lst (as.map V.ref)) ∧ tb ∉ [a, b, c, d, e] ∧ RowsAt H as T ∧ TabOk T n ∧ s.s0 < n ∧ s.s1 < n ∧ side ≤ 1 ∧ (nu = 2 ∨ nu = 3) ∧ baseV nu s = vi bs ∧ bs < n ∧ K35.Ends T bs s.s0 s.s1 z ∧ mergeK (kH h0) (kH h1) = kH U ∧ h0.length + h1.length ≤ 900 ∧
  ∀ H' m0 m1, SameOut [a, b, c, d, e] H H' → OwnA H' o a b c d e m0 m1 nu (meetS nu s side wh z) (metH side wh U h0 h1).1 (metH side wh U h0 h1).2 → Q (vi z) H'
abbrev N_law_meet : List Str := ["_law_tables", "_law_own", "_law_side", "_law_whole", "_law_states", "_law_copies", "_law_marks", "_law_kept", "_law_heard_here", "_law_ahead_here", "_law_base", "_law_met", "_law_both"]
theorem sc_law_meet : FnScope N_law_meet ["_law_tables", "_law_own", "_law_side", "_law_whole"] (defScope s_law_meet) := ⟨rfl, rfl, rfl, by decide +kernel, rfl, by decide +kernel, by decide +kernel⟩
theorem ok_law_meet {f : Addr} {fd : FuncData} (F : Fd K "_law_meet" "_law_meet" s_law_meet f fd) (B : Bu mg) (C_law_ahead : Cal Pg w K mg base 1 "_law_ahead" ["_law_own"] spOAhead) (C_law_led : Cal Pg w K mg base 1 "_law_led" ["_law_tables", "_law_state", "_law_row"] spLed)
    (C_law_rows : Cal Pg w K mg base 1 "_law_rows" ["_law_tables", "_law_state"] spRows) : FnOk Pg w K mg base (L2.CX Pg w) 2 f fd ["_law_tables", "_law_own", "_law_side", "_law_whole"] spOMeet := by
  refine F.ok sc_law_meet (fun vs H Q E ⟨tb, o, a, b, c, d, e, l0, l1, nu, s, h0, h1, U, as, T, n, side, wh, bs, z, ev, _⟩ => by rw [ev] <;> rfl) fun cdv A outer s0 H vs Q E hr ⟨tb, o, a, b, c, d, e, l0, l1, nu, s, h0, h1, U, as, T, n, side, wh, bs, z, ev, h, htb, hto, hR, hT, x0, x1, hsd, hn, hbs, hbn, hE, hU, hz, q⟩ => ?_
  subst ev
  refine ⟨_, (pss_cons (ps_par3 (i := 4) (j := 5) (l := 6) (by rfl) sc_law_meet.nd rfl rfl rfl (by decide) (by decide) (by decide) rfl rfl rfl (pa_cons (pe_dget (hu_of hr) (pv 1) pe_str (fun _ _ => rfl)) (pa_cons (pe_dget (hu_of hr) (pv 1) pe_str (fun _ _ => rfl)) (pa_cons (pe_dget (hu_of hr) (pv 1) pe_str (fun _ _ => rfl)) pa_nil))) (by rfl))
  (pss_cons (ps_par3 (i := 7) (j := 8) (l := 9) (by rfl) sc_law_meet.nd rfl rfl rfl (by decide) (by decide) (by decide) rfl rfl rfl (pa_cons (pe_dget (hu_of hr) (pv 1) pe_str (fun _ _ => rfl)) (pa_cons (pe_dget (hu_of hr) (pv 1) pe_str (fun _ _ => rfl)) (pa_cons (pe_cal C_law_ahead hr (by rfl) passL (pa_cons (pv 1) pa_nil)) pa_nil))) (by rfl))
  (C8.pss_cut (ps_set (i := 10) sc_law_meet.nd rfl (Or.inl rfl) (pe_ifExp (pt_cmpR op_isN (pv 9) pe_non (nomark _)) (pe_ix ix_list (pv 5) pe_int (fun _ _ => rfl)) (pe_ifExp (pt_val (pe_dget (hu_of hr) (pv 1) pe_str (fun _ _ => rfl))) (pe_ix ix_list (pv 7) (pv 9) (fun _ _ => rfl)) (pe_ix ix_list (pv 5) (pe_op op_sub pe_int (pv 9)) (fun _ _ => rfl)))))
  (pss_cons (ps_set (i := 11) sc_law_meet.nd rfl (Or.inl rfl) (pe_cal C_law_led hr (by rfl) passL (pa_cons (pv 0) (pa_cons (pe_ix ix_list (pv 4) pe_int (fun _ _ => rfl)) (pa_cons (pe_dget (hu_of hr) (pe_cal C_law_rows hr (by rfl) passL (pa_cons (pv 0) (pa_cons (pv 10) pa_nil))) (pe_ix ix_list (pv 4) pe_int (fun _ _ => rfl)) (fun _ _ => rfl)) pa_nil)))))
  (C8.pss_cut (ps_if (pt_cmpR op_ne (pv 9) (pv 2) (nomark _)) (pss_one (ps_asg (pe_op op_modN (pe_callTy (T := "int") call_int1 (by rfl) B.int (by decide +kernel) (pa_cons (pe_op op_add (pe_ix ix_list (pv 6) (pe_op op_sub pe_int (pv 2)) (fun _ _ => rfl)) pe_int) pa_nil)) (pe_dget (hu_of hr) (pv 1) pe_str (fun _ _ => rfl))) (pg_sub (pv 6) (pv 2) set_list))) pss_nil)
  (pss_cons (ps_asg (pe_ifExp (pt_val (pe_dget (hu_of hr) (pv 1) pe_str (fun _ _ => rfl))) (pe_ix ix_list (pv 4) (pe_op op_sub pe_int (pv 2)) (fun _ _ => rfl)) pe_non) (pg_sub (pv 7) (pv 2) set_list))
  (pss_cons (ps_asg (pe_tup (pa_cons (pv 11) (pa_cons (pv 11) pa_nil))) (pg_tup rfl (pgs_cons (pg_sub (pv 4) (pv 2) set_list) (pgs_cons (pg_sub (pv 5) (pv 2) set_list) pgs_nil))))
  (pss_cons (ps_set (i := 12) sc_law_meet.nd rfl (Or.inl rfl) (pe_callTy (T := "dict") call_dictD (by rfl) B.dict (by decide +kernel) (pa_cons (pe_ix ix_list (pv 8) pe_int (fun _ _ => rfl)) pa_nil)))
  (pss_cons (ps_expr (pe_bm PySem.F.plainAttrs_dict PySem.F.slot_dict_update PySem.F.type_dict_update mt_update (pv 12) (pa_cons (pe_ix ix_list (pv 8) pe_int (fun _ _ => rfl)) pa_nil)))
  (pss_cons (ps_asg (pv 12) (pg_sub (pv 8) (pv 2) set_list))
  (C8.pss_cut (ps_if (pt_val (pv 3)) (pss_cons (ps_asg (pe_tup (pa_cons (pv 11) (pa_cons (pv 11) (pa_cons (pe_ix ix_list (pv 6) (pv 2) (fun _ _ => rfl)) pa_nil)))) (pg_tup rfl (pgs_cons (pg_sub (pv 4) (pe_op op_sub pe_int (pv 2)) set_list) (pgs_cons (pg_sub (pv 5) (pe_op op_sub pe_int (pv 2)) set_list) (pgs_cons (pg_sub (pv 6) (pe_op op_sub pe_int (pv 2)) set_list) pgs_nil)))))
  (pss_one (ps_asg (pe_callTy (T := "dict") call_dictD (by rfl) B.dict (by decide +kernel) (pa_cons (pv 12) pa_nil)) (pg_sub (pv 8) (pe_op op_sub pe_int (pv 2)) set_list)))) pss_nil)
  (pss_one (ps_ret (pv 11)))))))))))))), ?_⟩
  have hl := h.l
  refine ⟨_, rfl, o, _, rfl, hl.states, _, rfl, o, _, rfl, hl.copies, _, rfl, o, _, rfl, hl.marks, _, _, _, rfl, ?_⟩
  refine ⟨_, rfl, o, _, rfl, hl.kept, _, rfl, o, _, rfl, hl.heard, _, rfl, o, a, b, c, d, e, l0, l1, nu, s, h0, h1, rfl, h, hn, _, _, _, rfl, ?_⟩
  -- the base
  refine ⟨fun σ H' => H' = H ∧ σ = [some (.ref tb), some (.ref o), some (vi side), some (.bl wh), some (.ref a), some (.ref b), some (.ref c), some (.ref d), some (.ref e), some (aheadV nu s.m0 s.m1), some (vi bs), none, none], ?_, ?_⟩
  · refine ⟨_, rfl, rfl, _, rfl, ?_⟩
    by_cases g0 : gapI nu s.m0 s.m1 = 0
    · have e : aheadV nu s.m0 s.m1 = .non := if_pos g0
      have e2 : baseV nu s = vi s.c0 := if_pos g0
      refine iteD e ⟨_, rfl, b, _, _, _, rfl, rfl, SqL.of hl.hb, at0 rfl, rfl, ?_⟩
      rw [← hbs, e2] <;> rfl
    · by_cases g1 : gapI nu s.m0 s.m1 = 1
      · have e : aheadV nu s.m0 s.m1 = .int 0 := (if_neg g0).trans (if_pos g1)
        have e2 : baseV nu s = s.k0 := (if_neg g0).trans (if_pos g1)
        rw [e]
        refine iteF ⟨_, rfl, o, _, rfl, hl.keeps, _, rfl, iteT ⟨_, rfl, _, rfl, d, _, _, _, rfl, rfl, SqL.of hl.hd, at0 rfl, rfl, ?_⟩⟩
        rw [← hbs, e2] <;> rfl
      · have e : aheadV nu s.m0 s.m1 = .int 1 := (if_neg g0).trans (if_neg g1)
        have e2 : baseV nu s = s.k1 := (if_neg g0).trans (if_neg g1)
        rw [e]
        refine iteF ⟨_, rfl, o, _, rfl, hl.keeps, _, rfl, iteT ⟨_, rfl, _, rfl, d, _, _, _, rfl, rfl, SqL.of hl.hd, at1 rfl, rfl, ?_⟩⟩
        rw [← hbs, e2] <;> rfl
  rintro σ H' ⟨rfl, rfl⟩
  -- met
  refine ⟨_, rfl, _, rfl, a, _, _, _, rfl, rfl, SqL.of hl.ha, at0 rfl, ?_⟩
  refine ⟨_, rfl, _, rfl, tb, as, T, n, bs, rfl, htb, hR, hT, hbn, fun H1 dd P R s1 nd hd hA hP => ?_⟩
  have hl1 := hl.same s1
  obtain ⟨u0, hu0, eu0⟩ := hE.ex
  have hm := hP.run hu0
  rw [eu0] at hm
  obtain ⟨⟨px, u⟩, hp, ep⟩ := List.mem_map.mp hm
  have ep : px = s.s1 := ep
  subst ep
  obtain ⟨i, hi⟩ := List.mem_iff_getElem?.mp hp
  have hi1 := (List.getElem?_eq_some_iff.mp hi).1
  obtain ⟨r, hr2⟩ : ∃ r, R[i]? = some r := ⟨R[i]'(by rw [← hA.lr]; exact hi1), List.getElem?_eq_getElem _⟩
  obtain ⟨k1, k2, _⟩ := hP.inn.row _ hp
  have hrow := hA.row i _ _ hi hr2
  refine ⟨_, rfl, a, _, _, _, rfl, rfl, SqL.of hl1.ha, at1 rfl, dd, .ref r, rfl, by rw [← kS_some hP.inn.nd hi hr2]; exact DGet.k (k := kx s.s1) hd, ?_⟩
  refine ⟨tb, r, as, T, n, s.s0, u, rfl, s1 _ _ htb, hR.same fun b xs e => s1 _ _ e, hT, x0, k1, .inl hrow, ?_⟩
  rw [hE.un u k1 k2]
  have so1 : SameOut [a, b, c, d, e] H' H1 := .of s1
  -- the marks
  refine ⟨fun σ H2 => SameOut [a, b, c, d, e] H' H2 ∧ OwnL H2 o a b c d e l0 l1 nu [vi s.s0, vi s.s1] [vi s.c0, vi s.c1] [vi (mk0 nu s side), vi (mk1 nu s side)] [s.k0, s.k1] (kH h0) (kH h1) ∧
    ∃ av, σ = [some (.ref tb), some (.ref o), some (vi side), some (.bl wh), some (.ref a), some (.ref b), some (.ref c), some (.ref d), some (.ref e), some av, some (vi bs), some (vi z), none], ?_, ?_⟩
  · have nu0 : 0 < nu := by omega
    have nn : ((nu : Nat) : Int) ≠ 0 := by omega
    have eq1 : aheadV nu s.m0 s.m1 ≠ vi side → ([vi s.m0, vi s.m1] : List V).set side (.int ((((if side = 0 then s.m1 else s.m0 : Nat) : Int) + 1).fmod (nu : Int))) = [vi (mk0 nu s side), vi (mk1 nu s side)] := fun hne => by
      rw [fmod_nat _ _ nu0, set2 hsd]
      unfold mk0 mk1
      rw [if_neg hne, if_neg hne]
      by_cases h : side = 0 <;> simp [h]
    generalize hav : aheadV nu s.m0 s.m1 = av at *
    have cav : av = .non ∨ av = .int 0 ∨ av = .int 1 := by
      rw [← hav]
      unfold aheadV
      split
      · exact .inl rfl
      · split
        · exact .inr (.inl rfl)
        · exact .inr (.inr rfl)
    have sc : scal av (vi side) = true := by rcases cav with rfl | rfl | rfl <;> rfl
    refine ⟨_, rfl, _, rfl, sc, _, rfl, ?_⟩
    by_cases hv : av = vi side
    · rw [decide_eq_true hv]
      refine iteF ⟨so1, ?_, _, rfl⟩
      have e1 : mk0 nu s side = s.m0 := if_pos (hav.trans hv)
      have e2 : mk1 nu s side = s.m1 := if_pos (hav.trans hv)
      rw [e1, e2]
      exact hl1
    · rw [decide_eq_false hv]
      refine iteT ?_
      refine ⟨_, rfl, _, rfl, _, _, rfl, rfl, c, _, _, _, rfl, rfl, SqL.of hl1.hc, at2' hsd, ((if side = 0 then s.m1 else s.m0 : Nat) : Int), 1, by by_cases h : side = 0 <;> simp [h], rfl, .inl ⟨_, rfl, ?_⟩⟩
      refine ⟨_, rfl, o, _, rfl, hl1.numbers, _, _, rfl, rfl, nn, ?_⟩
      refine ⟨_, rfl, _, rfl, c, _, _, side, rfl, rfl, hl1.hc, ix2 hsd, so1.trans (SameOut.upd (by simp)), ?_, _, rfl⟩
      rw [eq1 hv]
      exact hl1.c1 _
  rintro σ H2 ⟨so2, hl2, av, rfl⟩
  -- kept
  refine ⟨_, rfl, o, _, rfl, hl2.keeps, _, rfl, iteT ⟨_, rfl, _, rfl, _, _, rfl, rfl, a, _, _, _, rfl, rfl, SqL.of hl2.ha, at2' hsd, _, rfl, _, rfl, d, _, _, side, rfl, rfl, hl2.hd, ix2 hsd, ?_⟩⟩
  obtain ⟨H3, e3⟩ : ∃ H3, H3 = upd H2 d (.lst (([s.k0, s.k1] : List V).set side (if side = 0 then vi s.s1 else vi s.s0))) := ⟨_, rfl⟩
  have hl3 := hl2.d1 (([s.k0, s.k1] : List V).set side (if side = 0 then vi s.s1 else vi s.s0))
  have so3 := so2.trans (SameOut.upd (H := H2) (p := d) (u := .lst (([s.k0, s.k1] : List V).set side (if side = 0 then vi s.s1 else vi s.s0))) (by simp))
  rw [← e3] at hl3 so3 ⊢
  clear e3 hl2 so2
  -- states, copies
  refine ⟨_, rfl, _, rfl, by show 2 ≤ sizeLine; decide, fun tp ntp => ?_⟩
  have hl4 := hl3.same (Same.new (o := .tup [vi z, vi z]) ntp)
  have so4 := so3.trans (SameOut.of (Same.new (o := .tup [vi z, vi z]) ntp))
  refine ⟨tp, _, rfl, SqT.of upd_same, rfl, _, _, rfl, _, rfl, _, rfl, a, _, _, side, rfl, rfl, hl4.ha, ix2 hsd, ?_⟩
  have hl5 := hl4.a1 (([vi s.s0, vi s.s1] : List V).set side (vi z))
  have so5 := so4.trans (SameOut.upd (p := a) (u := .lst (([vi s.s0, vi s.s1] : List V).set side (vi z))) (by simp))
  refine ⟨_, _, rfl, _, rfl, _, rfl, b, _, _, side, rfl, rfl, hl5.hb, ix2 hsd, rfl, ?_⟩
  have hl6 := hl5.b1 (([vi s.c0, vi s.c1] : List V).set side (vi z))
  have so6 := so5.trans (SameOut.upd (p := b) (u := .lst (([vi s.c0, vi s.c1] : List V).set side (vi z))) (by simp))
  obtain ⟨H6, e6⟩ : ∃ H6, H6 = upd (upd (upd H3 tp (.tup [vi z, vi z])) a (.lst (([vi s.s0, vi s.s1] : List V).set side (vi z)))) b (.lst (([vi s.c0, vi s.c1] : List V).set side (vi z))) := ⟨_, rfl⟩
  rw [← e6] at hl6 so6 ⊢
  clear e6 ntp hl3 hl4 hl5 so3 so4 so5
  -- both
  refine ⟨_, rfl, e, _, _, _, rfl, rfl, SqL.of hl6.he, at0 rfl, l0, kH h0, rfl, hl6.hl0, fun p np => ?_⟩
  have hl7 := hl6.same (Same.new (o := .dK (kH h0)) np)
  have so7 := so6.trans (SameOut.of (Same.new (o := .dK (kH h0)) np))
  have pl1 : p ≠ l1 := Ne.symm (ne_of_none hl6.hl1 np)
  have pl0 : p ≠ l0 := Ne.symm (ne_of_none hl6.hl0 np)
  have po : p ≠ o := Ne.symm (ne_of_none hl6.ho np)
  refine ⟨_, rfl, .inr (.inr (.inl ⟨rfl, .inl ⟨_, upd_same⟩⟩)), _, rfl, e, _, _, _, rfl, rfl, SqL.of hl7.he, at1 rfl, ?_⟩
  refine ⟨p, l1, _, _, rfl, rfl, upd_same, hl7.hl1, pl1, line_of (by unfold kH; rw [List.length_map, List.length_map]; omega), ?_⟩
  rw [hU, upd_upd]
  have hl8 := hl6.same (Same.new (o := .dK (kH U)) np)
  have so8 := so6.trans (SameOut.of (Same.new (o := .dK (kH U)) np))
  obtain ⟨H8, e8⟩ : ∃ H8, H8 = upd H6 p (.dK (kH U)) := ⟨_, rfl⟩
  have hp8 : H8 p = some (.dK (kH U)) := by rw [e8]; exact upd_same
  rw [← e8] at hl8 so8 ⊢
  clear e8 np hl7 so7 hl6 so6
  refine ⟨_, rfl, _, rfl, _, rfl, e, _, _, side, rfl, rfl, hl8.he, ix2 hsd, ?_⟩
  have ee : ([.ref l0, .ref l1] : List V).set side (.ref p) = [.ref (if side = 0 then p else l0), .ref (if side = 0 then l1 else p)] := by
    rw [set2 hsd]
    by_cases h : side = 0 <;> simp [h]
  have hl9 := hl8.e1 (m0 := if side = 0 then p else l0) (m1 := if side = 0 then l1 else p) (E0 := if side = 0 then kH U else kH h0) (E1 := if side = 0 then kH h1 else kH U)
    (by by_cases h : side = 0
        · simp only [h, if_true]; exact hp8
        · simp only [h, if_false]; exact hl8.hl0)
    (by by_cases h : side = 0
        · simp only [h, if_true]; exact hl8.hl1
        · simp only [h, if_false]; exact hp8)
    (by by_cases h : side = 0
        · simp only [h, if_true]; exact po
        · simp only [h, if_false]; exact hl8.lo0)
    (by by_cases h : side = 0
        · simp only [h, if_true]; exact hl8.lo1
        · simp only [h, if_false]; exact po)
  rw [← ee] at hl9
  have so9 := so8.trans (SameOut.upd (p := e) (u := .lst (([.ref l0, .ref l1] : List V).set side (.ref p))) (by simp))
  have hp9 : upd H8 e (.lst (([.ref l0, .ref l1] : List V).set side (.ref p))) p = some (.dK (kH U)) := (upd_ne (Ne.symm (lst_ne hl8.he hp8))).trans hp8
  obtain ⟨H9, e9⟩ : ∃ H9, H9 = upd H8 e (.lst (([.ref l0, .ref l1] : List V).set side (.ref p))) := ⟨_, rfl⟩
  rw [← e9] at hl9 so9 hp9 ⊢
  clear e9 hl8 so8 hp8
  -- the end
  refine ⟨fun σ H' => (∃ o9, σ = [some (.ref tb), some (.ref o), some (vi side), some (.bl wh), some (.ref a), some (.ref b), some (.ref c), some (.ref d), some (.ref e), o9, some (vi bs), some (vi z), some (.ref p)]) ∧ Q (vi z) H', ⟨_, rfl, _, rfl, ?_⟩, fun σ H' ⟨⟨o9, e9⟩, q9⟩ => by rw [e9]; exact ⟨_, rfl, q9⟩⟩
  have llp : (if side = 0 then p else l0) ≠ (if side = 0 then l1 else p) := by
    by_cases h : side = 0
    · simp only [h, if_true]; exact pl1
    · simp only [h, if_false]; exact Ne.symm pl0
  cases wh with
  | false =>
    refine iteF ⟨⟨_, rfl⟩, q _ _ _ so9 ⟨hl9.ho, hl9.ha.trans ?_, hl9.hb.trans ?_, hl9.hc.trans ?_, hl9.hd.trans ?_, hl9.he, hl9.hl0.trans ?_, hl9.hl1.trans ?_, hl9.nd, llp, hl9.lo0, hl9.lo1⟩⟩
    · rw [set2 hsd]; by_cases h : side = 0 <;> simp [meetS, h]
    · rw [set2 hsd]; by_cases h : side = 0 <;> simp [meetS, h]
    · by_cases h : side = 0 <;> simp [meetS, h]
    · rw [set2 hsd]; by_cases h : side = 0 <;> simp [meetS, h]
    · by_cases h : side = 0 <;> simp [metH, h]
    · by_cases h : side = 0 <;> simp [metH, h]
  | true =>
    refine iteT ?_
    refine ⟨_, rfl, _, rfl, _, rfl, _, rfl, c, _, _, _, rfl, rfl, SqL.of hl9.hc, at2 hsd, by show 3 ≤ sizeLine; decide, fun tp ntp => ?_⟩
    have hlA := hl9.same (Same.new (o := .tup [vi z, vi z, if side = 0 then vi (mk0 nu s side) else vi (mk1 nu s side)]) ntp)
    have soA := so9.trans (SameOut.of (Same.new (o := .tup [vi z, vi z, if side = 0 then vi (mk0 nu s side) else vi (mk1 nu s side)]) ntp))
    have hpA := (Same.new (o := .tup [vi z, vi z, if side = 0 then vi (mk0 nu s side) else vi (mk1 nu s side)]) ntp) _ _ hp9
    refine ⟨tp, _, rfl, SqT.of upd_same, rfl, _, _, rfl, _, rfl, _, rfl, _, _, rfl, rfl, a, _, _, 1 - side, rfl, rfl, hlA.ha, by rw [set2 hsd]; split <;> exact ix2' hsd, ?_⟩
    have hlB := hlA.a1 ((([vi s.s0, vi s.s1] : List V).set side (vi z)).set (1 - side) (vi z))
    have soB := soA.trans (SameOut.upd (p := a) (u := .lst ((([vi s.s0, vi s.s1] : List V).set side (vi z)).set (1 - side) (vi z))) (by simp))
    have hpB := (upd_ne (o := .lst ((([vi s.s0, vi s.s1] : List V).set side (vi z)).set (1 - side) (vi z))) (Ne.symm (lst_ne hlA.ha hpA))).trans hpA
    refine ⟨_, _, rfl, _, rfl, _, rfl, _, _, rfl, rfl, b, _, _, 1 - side, rfl, rfl, hlB.hb, by rw [set2 hsd]; split <;> exact ix2' hsd, ?_⟩
    have hlC := hlB.b1 ((([vi s.c0, vi s.c1] : List V).set side (vi z)).set (1 - side) (vi z))
    have soC := soB.trans (SameOut.upd (p := b) (u := .lst ((([vi s.c0, vi s.c1] : List V).set side (vi z)).set (1 - side) (vi z))) (by simp))
    have hpC := (upd_ne (o := .lst ((([vi s.c0, vi s.c1] : List V).set side (vi z)).set (1 - side) (vi z))) (Ne.symm (lst_ne hlB.hb hpB))).trans hpB
    refine ⟨_, _, rfl, _, rfl, _, rfl, _, _, rfl, rfl, c, _, _, 1 - side, rfl, rfl, hlC.hc, ix2' hsd, rfl, ?_⟩
    have hlD := hlC.c1 (([vi (mk0 nu s side), vi (mk1 nu s side)] : List V).set (1 - side) (if side = 0 then vi (mk0 nu s side) else vi (mk1 nu s side)))
    have soD := soC.trans (SameOut.upd (p := c) (u := .lst (([vi (mk0 nu s side), vi (mk1 nu s side)] : List V).set (1 - side) (if side = 0 then vi (mk0 nu s side) else vi (mk1 nu s side)))) (by simp))
    have hpD := (upd_ne (o := .lst (([vi (mk0 nu s side), vi (mk1 nu s side)] : List V).set (1 - side) (if side = 0 then vi (mk0 nu s side) else vi (mk1 nu s side)))) (Ne.symm (lst_ne hlC.hc hpC))).trans hpC
    obtain ⟨HD, eD⟩ : ∃ HD, HD = upd (upd (upd (upd H9 tp (.tup [vi z, vi z, if side = 0 then vi (mk0 nu s side) else vi (mk1 nu s side)])) a (.lst ((([vi s.s0, vi s.s1] : List V).set side (vi z)).set (1 - side) (vi z)))) b (.lst ((([vi s.c0, vi s.c1] : List V).set side (vi z)).set (1 - side) (vi z)))) c (.lst (([vi (mk0 nu s side), vi (mk1 nu s side)] : List V).set (1 - side) (if side = 0 then vi (mk0 nu s side) else vi (mk1 nu s side)))) := ⟨_, rfl⟩
    rw [← eD] at hlD soD hpD ⊢
    clear eD ntp hlA hlB hlC soA soB soC hpA hpB hpC hl9 so9 hp9
    refine ⟨_, rfl, p, kH U, rfl, hpD, fun p2 np2 => ?_⟩
    have hlE := hlD.same (Same.new (o := .dK (kH U)) np2)
    have soE := soD.trans (SameOut.of (Same.new (o := .dK (kH U)) np2))
    have hpE := (Same.new (o := .dK (kH U)) np2) _ _ hpD
    have pp2 : p ≠ p2 := ne_of_none hpD np2
    have p2o : p2 ≠ o := Ne.symm (ne_of_none hlD.ho np2)
    refine ⟨_, rfl, _, rfl, _, _, rfl, rfl, e, _, _, 1 - side, rfl, rfl, hlE.he, ix2' hsd, ⟨_, rfl⟩, ?_⟩
    have ee2 : ([.ref (if side = 0 then p else l0), .ref (if side = 0 then l1 else p)] : List V).set (1 - side) (.ref p2) = [.ref (if side = 0 then p else p2), .ref (if side = 0 then p2 else p)] := by
      rw [set2' hsd]
      by_cases h : side = 0 <;> simp [h]
    have hlF := hlE.e1 (m0 := if side = 0 then p else p2) (m1 := if side = 0 then p2 else p) (E0 := kH U) (E1 := kH U)
      (by by_cases h : side = 0
          · simp only [h, if_true]; exact hpE
          · simp only [h, if_false]; exact upd_same)
      (by by_cases h : side = 0
          · simp only [h, if_true]; exact upd_same
          · simp only [h, if_false]; exact hpE)
      (by by_cases h : side = 0
          · simp only [h, if_true]; exact po
          · simp only [h, if_false]; exact p2o)
      (by by_cases h : side = 0
          · simp only [h, if_true]; exact p2o
          · simp only [h, if_false]; exact po)
    rw [← ee2] at hlF
    have llF : (if side = 0 then p else p2) ≠ (if side = 0 then p2 else p) := by
      by_cases h : side = 0
      · simp only [h, if_true]; exact pp2
      · simp only [h, if_false]; exact Ne.symm pp2
    refine q _ _ _ (soE.trans (SameOut.upd (p := e) (by simp))) ⟨hlF.ho, hlF.ha.trans ?_, hlF.hb.trans ?_, hlF.hc.trans ?_, hlF.hd.trans ?_, hlF.he, hlF.hl0.trans ?_, hlF.hl1.trans ?_, hlF.nd, llF, hlF.lo0, hlF.lo1⟩
    · rw [set2 hsd]; by_cases h : side = 0 <;> simp [meetS, h, set2' hsd, set2' (show 0 ≤ 1 by decide)]
    · rw [set2 hsd]; by_cases h : side = 0 <;> simp [meetS, h, set2' hsd]
    · rw [set2' hsd]; by_cases h : side = 0 <;> simp [meetS, h]
    · rw [set2 hsd]; by_cases h : side = 0 <;> simp [meetS, h]
    · simp [metH]
    · simp [metH]
end
end K35
set_option maxHeartbeats 4000000
/-! The law's _law_right, _law_same. -/
namespace K35
open PySem PySem.Spec PyProof.Rows L2
theorem iv_append (a b : List Nat) : iv (a ++ b) = iv a ++ iv b := List.map_append
def look (h : Hd) (k : Nat) : Nat := ((h.find? fun p => decide (p.1 = k)).map Prod.snd).getD 0
theorem look_cons_eq {p : Nat × Nat} {r : Hd} : look (p :: r) p.1 = p.2 := by simp [look]
theorem look_cons_ne {p : Nat × Nat} {r : Hd} {k : Nat} (h : p.1 ≠ k) : look (p :: r) k = look r k := by simp [look, List.find?_cons, h]
theorem look_map : ∀ {h : Hd}, (h.map Prod.fst).Nodup → (h.map Prod.fst).map (look h) = h.map Prod.snd
  | [], _ => rfl
  | p :: r, hd => by
    have hd2 := List.nodup_cons.mp hd
    rw [List.map_cons, List.map_cons, List.map_cons, look_cons_eq, ← look_map hd2.2]
    congr 1
    exact List.map_congr_left fun k hk => look_cons_ne fun e => hd2.1 (by show p.1 ∈ r.map Prod.fst; rw [e]; exact hk)
theorem valH_some : ∀ {h : Hd} {k : Nat}, k ∈ h.map Prod.fst → valV (kH h) (kx k) = some (vi (look h k))
  | [], k, hk => by cases hk
  | p :: r, k, hk => by
    by_cases e : p.1 = k
    · subst e
      rw [look_cons_eq]
      exact valV_pos (p := (kx p.1, vi p.2)) rfl
    · have e1 : valV (kH (p :: r)) (kx k) = valV (kH r) (kx k) := valV_neg (p := (kx p.1, vi p.2)) (fun z => e (kx_inj z))
      rw [e1, look_cons_ne e]
      exact valH_some ((List.mem_cons.mp hk).resolve_left fun z => e z.symm)
section
variable {w : World} {K : PySem.W.Frag} {mg : Str → Option Value} {base : Heap}
def HdOk (T : List (List Nat)) (f z : Nat) (h : Hd) : Prop := (h.map Prod.fst).Nodup ∧ h.length < 64 ∧ (∀ p ∈ h, p.2 < T.length) ∧ ∀ u : List Nat, u.Perm (h.map Prod.snd) → run T u f = z
def spORight : Sp := fun vs H Q _ => ∃ (tb o a b c d e l0 l1 : Addr) (nu : Nat) (s : Tw) (h0 h1 : Hd) (as : List Addr) (T : List (List Nat)) (n f : Nat), vs = [.ref tb, vi f, .ref o] ∧ OwnA H o a b c d e l0 l1 nu s h0 h1 ∧
  H tb = some (.lst (as.map V.ref)) ∧ RowsAt H as T ∧ TabOk T n ∧ f < n ∧ HdOk T f s.s0 h0 ∧ HdOk T f s.s1 h1 ∧ ∀ H', Same H H' → Q (.bl true) H'
abbrev N_law_right : List Str := ["_law_tables", "_law_first", "_law_own", "_law_side", "_law_lot", "_law_name"]
theorem sc_law_right : FnScope N_law_right ["_law_tables", "_law_first", "_law_own"] (defScope s_law_right) := ⟨rfl, rfl, rfl, by decide +kernel, rfl, by decide +kernel, by decide +kernel⟩
theorem ok_law_right {f : Addr} {fd : FuncData} (F : Fd K "_law_right" "_law_right" s_law_right f fd) (B : Bu mg) (C_law_led : Cal Pg w K mg base 1 "_law_led" ["_law_tables", "_law_state", "_law_row"] spLed) : FnOk Pg w K mg base (L2.CX Pg w) 2 f fd ["_law_tables", "_law_first", "_law_own"] spORight := by
  refine okN F sc_law_right (fun vs H Q E ⟨tb, o, a, b, c, d, e, l0, l1, nu, s, h0, h1, as, T, n, f, ev, _⟩ => by rw [ev] <;> rfl) fun cdv A outer s0 H vs Q E hr ⟨tb, o, a, b, c, d, e, l0, l1, nu, s, h0, h1, as, T, n, f, ev, h, htb, hR, hT, hf, k0, k1, q⟩ => ?_
  subst ev
  refine ⟨_, (pss_cons (ps_for PassesOwn.never rfl (pi_range1 (by rfl) B.range (pa_cons pe_int pa_nil)) (pg_name (i := 3) sc_law_right.nd rfl (Or.inl rfl))
   (pss_cons (ps_set (i := 4) sc_law_right.nd rfl (Or.inr rfl) (pe_ix ix_list (pe_dget (hu_of hr) (pv 2) pe_str (fun _ _ => rfl)) (pv 3) (fun _ _ => rfl)))
  (pss_one (ps_if (pt_cmpR op_ne (pe_cal C_law_led hr (by rfl) passL (pa_cons (pv 0) (pa_cons (pv 1) (pa_cons (pe_lc (own := [("_law_name", 5)]) (tt := tYes) rfl sc_law_right.nd (pi_list (pe_callB (call_sortedDI rfl) (by rfl) B.sorted (by decide +kernel) (pa_cons (pv 4) pa_nil))) (blkOk_by (own := [("_law_name", 5)]) (N := N_law_right) (sc := defScope s_law_right) (by decide +kernel)) (fun _ _ _ _ _ => (pg_name (i := 5) sc_law_right.nd rfl (Or.inl rfl))) (fun _ _ _ _ _ => pts_nil) (fun _ _ _ _ _ => (pe_dget (hu_of hr) (pv 4) (pv 5) (fun _ _ => rfl)))) pa_nil)))) (pe_ix ix_list (pe_dget (hu_of hr) (pv 2) pe_str (fun _ _ => rfl)) (pv 3) (fun _ _ => rfl)) (nomark _)) (pss_one (ps_ret pe_bl)) pss_nil))))
  (pss_one (ps_ret pe_bl))), ?_⟩
  refine ⟨2, rfl, by decide, by decide, for_range (lo := 0) (n := 2) (fun i σ H' => ∃ o3 o4 o5, σ = [some (.ref tb), some (vi f), some (.ref o), o3, o4, o5] ∧ Same H H') ⟨_, _, _, rfl, Same.refl _⟩ ?_ ?_⟩
  · rintro i σ H' hi ⟨o3, o4, o5, rfl, sH⟩
    have hl := h.l.same sH
    -- the side's own
    obtain ⟨lt, hs, z, ei, hlt, hz, hk⟩ : ∃ (lt : Addr) (hs : Hd) (z : Nat), ([.ref l0, .ref l1] : List V)[i]? = some (.ref lt) ∧ H' lt = some (.dK (kH hs)) ∧ ([vi s.s0, vi s.s1] : List V)[i]? = some (vi z) ∧ HdOk T f z hs := by
      rcases Nat.lt_succ_iff_lt_or_eq.mp hi with e | e
      · have e : i = 0 := by omega
        subst e
        exact ⟨l0, h0, s.s0, rfl, hl.hl0, rfl, k0⟩
      · subst e
        exact ⟨l1, h1, s.s1, rfl, hl.hl1, rfl, k1⟩
    obtain ⟨knd, k64, kd, kr⟩ := hk
    refine ⟨_, rfl, o, _, rfl, hl.heard, _, rfl, e, _, _, _, rfl, rfl, SqL.of hl.he, at_of (j := i) (by omega) ei, ?_⟩
    refine ⟨_, rfl, _, rfl, ?_⟩
    refine ⟨_, rfl, lt, kH hs, hs.map fun p => ((p.1 : Nat) : Int), rfl, .inl hlt, ?_, by rw [List.length_map]; exact k64, fun ys p perm rising np => ?_⟩
    · unfold kH
      rw [List.map_map, List.map_map] <;> rfl
    have ekeys : hs.map (fun p => ((p.1 : Nat) : Int)) = (hs.map Prod.fst).map fun x => ((x : Nat) : Int) := by rw [List.map_map] <;> rfl
    rw [ekeys] at perm
    -- the sorted names
    obtain ⟨ns, rfl, pn⟩ : ∃ ns : List Nat, ys = ns.map (fun x => ((x : Nat) : Int)) ∧ ns.Perm (hs.map Prod.fst) := by
      refine ⟨ys.map Int.toNat, ?_, ?_⟩
      · rw [List.map_map]
        have : ∀ z ∈ ys, z = ((fun x : Nat => (x : Int)) ∘ Int.toNat) z := fun z hz => by
          obtain ⟨x, _, rfl⟩ := List.mem_map.mp (perm.mem_iff.mp hz)
          rfl
        conv => lhs; rw [← List.map_id ys]
        exact List.map_congr_left this
      · have := perm.map Int.toNat
        rw [List.map_map] at this
        have e : (hs.map Prod.fst).map (Int.toNat ∘ fun x : Nat => (x : Int)) = hs.map Prod.fst := by
          conv => rhs; rw [← List.map_id (hs.map Prod.fst)]
          exact List.map_congr_left fun x _ => rfl
        rw [e] at this
        exact this
    have sp : Same H' (upd H' p (.lst ((ns.map fun x => ((x : Nat) : Int)).map V.int))) := Same.new np
    have elist : (ns.map fun x => ((x : Nat) : Int)).map V.int = iv ns := by rw [List.map_map] <;> rfl
    rw [elist] at sp ⊢
    refine ⟨p, rfl, ⟨_, SqL.of upd_same⟩, fun D hD => ?_⟩
    have hnl : ns.length < 64 := by rw [pn.length_eq, List.length_map]; exact k64
    refine lc_list (K := K) (a := p) (xs := iv ns) (fun j H2 => ∃ H3, Same H' H3 ∧ H3 D = none ∧ H3 p = some (.lst (iv ns)) ∧ H2 = upd H3 D (.lst (iv ((ns.take j).map (look hs))))) ⟨_, sp, hD, upd_same, rfl⟩ (fun j H2 _ ⟨H3, s3, n3, hp, e⟩ => by rw [e]; exact SqL.of ((Same.new n3) _ _ hp)) (fun j x H2 hx ⟨H3, s3, n3, hp, e⟩ => ?_) fun H2 ⟨H3, s3, n3, hp, e⟩ => ?_
    · obtain ⟨k, hk, rfl⟩ : ∃ k, ns[j]? = some k ∧ x = vi k := by
        rw [List.getElem?_map] at hx
        cases e : ns[j]? with
        | none => rw [e] at hx; cases hx
        | some z => rw [e] at hx; exact ⟨z, rfl, (Option.some.inj hx).symm⟩
      have hkm : k ∈ hs.map Prod.fst := pn.mem_iff.mp (List.mem_of_getElem? hk)
      refine ⟨rfl, yesT (iteT ?_)⟩
      refine ⟨_, rfl, _, rfl, lt, vi (look hs k), rfl, by rw [← valH_some hkm]; exact DGet.k (k := kx k) (by rw [e]; exact (Same.new n3) _ _ (s3 _ _ hlt)), ?_⟩
      refine ⟨_, by rw [e]; exact upd_same, small1000 (by rw [List.length_map, List.length_map, List.length_take]; omega), H3, s3, n3, hp, ?_⟩
      rw [e, upd_upd, List.take_add_one, hk, List.map_append, iv_append] <;> rfl
    · have et : (ns.take (iv ns).length).map (look hs) = ns.map (look hs) := by rw [List.length_map, List.take_length]
      rw [et] at e
      have pu : (ns.map (look hs)).Perm (hs.map Prod.snd) := by
        rw [← look_map knd]
        exact pn.map _
      have s4 : Same H H2 := by rw [e]; exact (sH.trans s3).trans (Same.new n3)
      refine ⟨tb, D, as, T, n, f, ns.map (look hs), rfl, s4 _ _ htb, hR.same fun b xs e => s4 _ _ e, hT, hf, fun d hd => ?_, .inr (by rw [e]; exact upd_same), ?_⟩
      · obtain ⟨p, hp, rfl⟩ := List.mem_map.mp (pu.mem_iff.mp hd)
        exact kd p hp
      rw [kr _ pu]
      have hl4 := h.l.same s4
      refine ⟨_, rfl, o, _, rfl, hl4.states, _, rfl, a, _, _, _, rfl, rfl, SqL.of hl4.ha, at_of (j := i) (by omega) hz, rfl, _, rfl, ?_⟩
      refine iteNS rfl ?_
      exact ⟨_, _, _, rfl, s4⟩
  · rintro σ H' ⟨o3, o4, o5, rfl, sH⟩
    exact q _ sH
end
end K35
set_option maxHeartbeats 4000000
/-! The law's _law_same: repr of nested lists. -/
namespace K35
open PySem PySem.Spec PyProof.Rows L2
structure Good (d : PyData) (k w : Nat) : Prop where
  sh : d.showable = true
  nd : d.hasDict = false
  dp : d.depth ≤ k
  lf : d.leavesShort 13 = true
  wt : d.weight ≤ w
structure GoodAll (ds : List PyData) (k w : Nat) : Prop where
  sh : PyData.showableAll ds = true
  nd : PyData.hasDictAll ds = false
  dp : PyData.depthAll ds ≤ k
  lf : PyData.leavesShortAll 13 ds = true
  wt : PyData.weightAll ds ≤ w
theorem GoodAll.nil {k w : Nat} : GoodAll [] k w := ⟨rfl, rfl, Nat.zero_le _, rfl, Nat.zero_le _⟩
theorem GoodAll.cons {d : PyData} {ds : List PyData} {k w w' : Nat} (h : Good d k w) (t : GoodAll ds k w') : GoodAll (d :: ds) k (w + 1 + w') := by
  refine ⟨?_, ?_, ?_, ?_, ?_⟩
  · simp only [PyData.showableAll, h.sh, t.sh, Bool.and_self]
  · simp only [PyData.hasDictAll, h.nd, t.nd, Bool.or_self]
  · simp only [PyData.depthAll]
    have := h.dp
    have := t.dp
    omega
  · simp only [PyData.leavesShortAll, h.lf, t.lf, Bool.and_self]
  · simp only [PyData.weightAll]
    have := h.wt
    have := t.wt
    omega
theorem GoodAll.tup {ds : List PyData} {k w : Nat} (t : GoodAll ds k w) : Good (.tuple ds) (k + 1) w := by
  refine ⟨by simp only [PyData.showable, t.sh], by simp only [PyData.hasDict, t.nd], ?_, by simp only [PyData.leavesShort, t.lf], by simp only [PyData.weight]; exact t.wt⟩
  simp only [PyData.depth]
  have := t.dp
  omega
theorem GoodAll.lst {ds : List PyData} {k w : Nat} (t : GoodAll ds k w) : Good (.list ds) (k + 1) w := by
  refine ⟨by simp only [PyData.showable, t.sh], by simp only [PyData.hasDict, t.nd], ?_, by simp only [PyData.leavesShort, t.lf], by simp only [PyData.weight]; exact t.wt⟩
  simp only [PyData.depth]
  have := t.dp
  omega
theorem Good.up {d : PyData} {k k' w : Nat} (h : Good d k w) (e : k ≤ k') : Good d k' w := ⟨h.sh, h.nd, Nat.le_trans h.dp e, h.lf, h.wt⟩
theorem good_non {k : Nat} : Good .none k 10 := ⟨by simp [PyData.showable], by simp [PyData.hasDict], by simp [PyData.depth], by simp [PyData.leavesShort], by simp [PyData.weight]⟩
theorem good_bl {b : Bool} {k : Nat} : Good (.bool b) k 10 := ⟨by simp [PyData.showable], by simp [PyData.hasDict], by simp [PyData.depth], by simp [PyData.leavesShort], by simp [PyData.weight]⟩
theorem short_ints : ∀ x : Nat, x < 20 → (PyData.int (x : Int)).leavesShort 13 = true ∧ (PyData.int (x : Int)).showable = true ∧ (PyData.int (x : Int)).weight ≤ 10 := by decide +kernel
theorem good_int {x k : Nat} (h : x < 20) : Good (.int (x : Int)) k 10 := by
  obtain ⟨h1, h2, h3⟩ := short_ints x h
  exact ⟨h2, by simp [PyData.hasDict], by simp [PyData.depth], h1, h3⟩
theorem Good.fits {d : PyData} {k w : Nat} (h : Good d k w) (hw : w ≤ 2 ^ 20) : d.shown.length ≤ sizeLine := PyData.shown_fits (by decide) (by decide) h.lf (Nat.le_trans h.wt hw)
/-- a datum of a scalar -/
def pdV : V → PyData
  | .int i => .int i
  | .bl b => .bool b
  | .str z => .str z
  | _ => .none
/-- None or a small number -/
def KV' (v : V) : Prop := v = .non ∨ ∃ x : Nat, x < 20 ∧ v = vi x
theorem KV'.dp {K : PySem.W.Frag} {H : Hp} {v : V} (h : KV' v) : Dp K H v (pdV v) := by
  rcases h with rfl | ⟨x, _, rfl⟩
  · exact .non
  · exact .int _
theorem KV'.good {v : V} {k : Nat} (h : KV' v) : Good (pdV v) k 10 := by
  rcases h with rfl | ⟨x, hx, rfl⟩
  · exact good_non
  · exact good_int hx
theorem KV'.nat {x : Nat} (h : x < 20) : KV' (vi x) := .inr ⟨x, h, rfl⟩
/-- the state of a twin is of small numbers -/
structure TwSm (s : Tw) : Prop where
  s0 : s.s0 < 20
  s1 : s.s1 < 20
  c0 : s.c0 < 20
  c1 : s.c1 < 20
  m0 : s.m0 < 20
  m1 : s.m1 < 20
  k0 : KV' s.k0
  k1 : KV' s.k1
theorem ahead_kv (nu m0 m1 : Nat) : KV' (aheadV nu m0 m1) := by
  unfold aheadV
  split
  · exact .inl rfl
  · split
    · exact .inr ⟨0, by decide, rfl⟩
    · exact .inr ⟨1, by decide, rfl⟩
def pd2 (x y : V) : PyData := .tuple [pdV x, pdV y]
theorem dp2 {K : PySem.W.Frag} {H : Hp} {p : Addr} {x y : V} (h : H p = some (.tup [x, y])) (hx : KV' x) (hy : KV' y) : Dp K H (.ref p) (pd2 x y) := .tup (SqT.of h) (.cons hx.dp (.cons hy.dp .nil))
theorem good2 {x y : V} {k : Nat} (hx : KV' x) (hy : KV' y) : Good (pd2 x y) (k + 1) 22 := (GoodAll.cons hx.good (GoodAll.cons hy.good (GoodAll.nil (w := 0)))).tup
/-- the four tuples of a twin -/
def tw4 (s : Tw) : List PyData := [pd2 (vi s.s0) (vi s.s1), pd2 (vi s.c0) (vi s.c1), pd2 (vi s.m0) (vi s.m1), pd2 s.k0 s.k1]
theorem OwnA.of_same {H H' : Hp} {o a b c d e l0 l1 : Addr} {nu : Nat} {s : Tw} {h0 h1 : Hd} (h : OwnA H o a b c d e l0 l1 nu s h0 h1) (k : Same H H') : OwnA H' o a b c d e l0 l1 nu s h0 h1 := h.same fun x u _ _ e => k x u e
section
variable {w : World} {K : PySem.W.Frag} {mg : Str → Option Value} {base : Heap}
def spSame (CT : Addr) : Sp := fun vs H Q _ => ∃ (tw m o a b c d e l0 l1 : Addr) (first : V) (nu : Nat) (s : Tw) (h0 h1 : Hd), vs = [.ref tw, .ref o] ∧ TwAt CT H tw m first (vi nu) (.bl true) s ∧ OwnA H o a b c d e l0 l1 nu s h0 h1 ∧ (nu = 2 ∨ nu = 3) ∧ TwSm s ∧ ∀ H', Same H H' → Q (.bl true) H'
abbrev N_law_same : List Str := ["_law_twin", "_law_own", "_law_dues"]
theorem sc_law_same : FnScope N_law_same ["_law_twin", "_law_own"] (defScope s_law_same) := ⟨rfl, rfl, rfl, by decide +kernel, rfl, by decide +kernel, by decide +kernel⟩
theorem ok_law_same {CT : Addr} {f : Addr} {fd : FuncData} (F : Fd K "_law_same" "_law_same" s_law_same f fd) (B : Bu mg) (TC : TF K CT) (C_law_ahead : Cal Pg w K mg base 1 "_law_ahead" ["_law_own"] spOAhead) (M_ahead : Met Pg w K mg base 1 CT "ahead" ["self"] (spAhead CT)) :
    FnG Pg w K mg base (L2.CX Pg w) 2 f fd ["_law_twin", "_law_own"] (spSame CT) := by
  refine fnG_of F sc_law_same (fun vs H Q E ⟨tw, m, o, a, b, c, d, e, l0, l1, fi, nu, s, h0, h1, ev, _⟩ => by rw [ev] <;> rfl) fun cdv A outer s0 H vs Q E hg hr hcd hlk ⟨tw, m, o, a, b, c, d, e, l0, l1, fi, nu, s, h0, h1, ev, hA, h, hn, sm, q⟩ => ?_
  subst ev
  have G : (A.deeper (envOfC "_law_same" (defScope s_law_same) s0.heap.objs.size f cdv)).guards = some [] := hg
  refine ⟨_, (pss_cons (ps_set (i := 2) sc_law_same.nd rfl (Or.inl rfl) (pe_lst (pa_cons (pe_callTy (T := "tuple") call_tuple_of (by rfl) B.tuple (by decide +kernel) (pa_cons (pe_dget (hu_of hr) (pv 1) pe_str (fun _ _ => rfl)) pa_nil)) (pa_cons (pe_callTy (T := "tuple") call_tuple_of (by rfl) B.tuple (by decide +kernel) (pa_cons (pe_dget (hu_of hr) (pv 1) pe_str (fun _ _ => rfl)) pa_nil)) (pa_cons (pe_callTy (T := "tuple") call_tuple_of (by rfl) B.tuple (by decide +kernel) (pa_cons (pe_dget (hu_of hr) (pv 1) pe_str (fun _ _ => rfl)) pa_nil)) (pa_cons (pe_callTy (T := "tuple") call_tuple_of (by rfl) B.tuple (by decide +kernel) (pa_cons (pe_dget (hu_of hr) (pv 1) pe_str (fun _ _ => rfl)) pa_nil)) (pa_cons (pe_cal C_law_ahead hr (by rfl) passL (pa_cons (pv 1) pa_nil)) pa_nil)))))))
  (pss_one (ps_ret (pe_cmpR op_eq (pe_callB (call_reprD G hr) (by rfl) B.repr (by decide +kernel) (pa_cons (pe_lst (pa_cons (pe_fld (pv 0) rfl) (pa_cons (pe_fld (pv 0) rfl) (pa_cons (pe_fld (pv 0) rfl) (pa_cons (pe_fld (pv 0) rfl) (pa_cons (pe_mt0 TC.cl M_ahead hr passL (pv 0)) pa_nil)))))) pa_nil)) (pe_callB (call_reprD G hr) (by rfl) B.repr (by decide +kernel) (pa_cons (pv 2) pa_nil)) (nomark _))))), ?_⟩
  have hl := h.l
  -- the dues
  refine ⟨_, rfl, o, _, rfl, hl.states, a, _, rfl, .inl ⟨SqL.of hl.ha, fun p1 n1 => ?_⟩⟩
  have t1 : Same H (upd H p1 (.tup [vi s.s0, vi s.s1])) := Same.new n1
  have hl1 := hl.same t1
  refine ⟨_, rfl, o, _, rfl, hl1.copies, b, _, rfl, .inl ⟨SqL.of hl1.hb, fun p2 n2 => ?_⟩⟩
  have t2 := t1.trans (Same.new (o := .tup [vi s.c0, vi s.c1]) n2)
  have hl2 := hl.same t2
  refine ⟨_, rfl, o, _, rfl, hl2.marks, c, _, rfl, .inl ⟨SqL.of hl2.hc, fun p3 n3 => ?_⟩⟩
  have t3 := t2.trans (Same.new (o := .tup [vi s.m0, vi s.m1]) n3)
  have hl3 := hl.same t3
  refine ⟨_, rfl, o, _, rfl, hl3.kept, d, _, rfl, .inl ⟨SqL.of hl3.hd, fun p4 n4 => ?_⟩⟩
  have t4 := t3.trans (Same.new (o := .tup [s.k0, s.k1]) n4)
  refine ⟨_, rfl, o, a, b, c, d, e, l0, l1, nu, s, h0, h1, rfl, h.of_same t4, hn, by show 5 ≤ sizeLine; decide, fun l nl => ?_⟩
  obtain ⟨H5, e5⟩ : ∃ H5, H5 = upd (upd (upd (upd (upd H p1 (.tup [vi s.s0, vi s.s1])) p2 (.tup [vi s.c0, vi s.c1])) p3 (.tup [vi s.m0, vi s.m1])) p4 (.tup [s.k0, s.k1])) l (.lst [.ref p1, .ref p2, .ref p3, .ref p4, aheadV nu s.m0 s.m1]) := ⟨_, rfl⟩
  have t5 : Same H H5 := by rw [e5]; exact t4.trans (Same.new nl)
  have q4 : upd (upd (upd (upd H p1 (.tup [vi s.s0, vi s.s1])) p2 (.tup [vi s.c0, vi s.c1])) p3 (.tup [vi s.m0, vi s.m1])) p4 (.tup [s.k0, s.k1]) p4 = some (.tup [s.k0, s.k1]) := upd_same
  have q3 := (Same.new (o := .tup [s.k0, s.k1]) n4) p3 _ upd_same
  have q2 := (Same.new (o := .tup [s.k0, s.k1]) n4) p2 _ ((Same.new (o := .tup [vi s.m0, vi s.m1]) n3) p2 _ upd_same)
  have q1 := (Same.new (o := .tup [s.k0, s.k1]) n4) p1 _ ((Same.new (o := .tup [vi s.m0, vi s.m1]) n3) p1 _ ((Same.new (o := .tup [vi s.c0, vi s.c1]) n2) p1 _ upd_same))
  have r1 : H5 p1 = some (.tup [vi s.s0, vi s.s1]) := by rw [e5]; exact (Same.new nl) _ _ q1
  have r2 : H5 p2 = some (.tup [vi s.c0, vi s.c1]) := by rw [e5]; exact (Same.new nl) _ _ q2
  have r3 : H5 p3 = some (.tup [vi s.m0, vi s.m1]) := by rw [e5]; exact (Same.new nl) _ _ q3
  have r4 : H5 p4 = some (.tup [s.k0, s.k1]) := by rw [e5]; exact (Same.new nl) _ _ q4
  have rl : H5 l = some (.lst [.ref p1, .ref p2, .ref p3, .ref p4, aheadV nu s.m0 s.m1]) := by rw [e5]; exact upd_same
  rw [← e5]
  clear e5 nl n1 n2 n3 n4 t1 t2 t3 t4 hl1 hl2 hl3 q1 q2 q3 q4
  -- repr of the twin's and of the dues
  have hA5 := hA.same t5
  obtain ⟨dx, a', b', c', d', x1, x2, x3, x4, x5⟩ := hA5
  refine ⟨_, rfl, tw, CT, dx, _, _, rfl, x1, TC.cl, TC.states, rfl, ?_⟩
  refine ⟨_, rfl, tw, CT, dx, _, _, rfl, x1, TC.cl, TC.copies, rfl, ?_⟩
  refine ⟨_, rfl, tw, CT, dx, _, _, rfl, x1, TC.cl, TC.marks, rfl, ?_⟩
  refine ⟨_, rfl, tw, CT, dx, _, _, rfl, x1, TC.cl, TC.kept, rfl, ?_⟩
  refine ⟨_, rfl, tw, dx, _, rfl, x1, rfl, tw, m, fi, .bl true, nu, s, rfl, hA.same t5, hn, by show 5 ≤ sizeLine; decide, fun L nL => ?_⟩
  have t6 : Same H5 (upd H5 L (.lst [.ref a', .ref b', .ref c', .ref d', aheadV nu s.m0 s.m1])) := Same.new nL
  have kv0 := KV'.nat sm.s0
  have kv1 := KV'.nat sm.s1
  have kc0 := KV'.nat sm.c0
  have kc1 := KV'.nat sm.c1
  have km0 := KV'.nat sm.m0
  have km1 := KV'.nat sm.m1
  have kah := ahead_kv nu s.m0 s.m1
  have good : Good (.list [pd2 (vi s.s0) (vi s.s1), pd2 (vi s.c0) (vi s.c1), pd2 (vi s.m0) (vi s.m1), pd2 s.k0 s.k1, pdV (aheadV nu s.m0 s.m1)]) 2 103 :=
    (GoodAll.cons (good2 (k := 0) kv0 kv1) (GoodAll.cons (good2 kc0 kc1) (GoodAll.cons (good2 km0 km1) (GoodAll.cons (good2 sm.k0 sm.k1) (GoodAll.cons kah.good (GoodAll.nil (w := 0))))))).lst
  refine ⟨.ref L, _, rfl, .lst (SqL.of upd_same) (.cons (dp2 (t6 _ _ x2) kv0 kv1) (.cons (dp2 (t6 _ _ x3) kc0 kc1) (.cons (dp2 (t6 _ _ x4) km0 km1) (.cons (dp2 (t6 _ _ x5) sm.k0 sm.k1) (.cons kah.dp .nil))))), good.sh, good.nd, Nat.le_trans good.dp (by decide), good.fits (by decide), ?_⟩
  refine ⟨_, rfl, .ref l, _, rfl, .lst (SqL.of (t6 _ _ rl)) (.cons (dp2 (t6 _ _ r1) kv0 kv1) (.cons (dp2 (t6 _ _ r2) kc0 kc1) (.cons (dp2 (t6 _ _ r3) km0 km1) (.cons (dp2 (t6 _ _ r4) sm.k0 sm.k1) (.cons kah.dp .nil))))), good.sh, good.nd, Nat.le_trans good.dp (by decide), good.fits (by decide), ?_⟩
  refine ⟨rfl, ?_⟩
  have := q _ (t5.trans t6)
  rw [decide_eq_true (show V.str _ = V.str _ from rfl)]
  exact this
end
end K35
set_option maxHeartbeats 4000000
/-! The law's _law_wider. -/
namespace K35
open PySem PySem.Spec PyProof.Rows L2
def rTupOf (K : PySem.W.Frag) : List V → Hp → VK → Prop := fun xs H Q => ∃ p ys, xs = [V.ref p] ∧ ((SqL K H p ys ∧ ∀ l, H l = none → Q (V.ref l) (upd H l (.tup ys))) ∨ (SqT K H p ys ∧ Q (V.ref p) H))
theorem catA_gen {K : PySem.W.Frag} {H : Hp} {a b : Addr} {xs ys : List V} {Q : VK} (hat : H a = some (.tup xs)) (hb : H b = some (.tup ys)) (hz : xs.length + ys.length ≤ sizeLine)
    (k : ∀ p H', Same H H' → H' p = some (.tup (xs ++ ys)) → Q (.ref p) H') : rCatA K (.ref a) (.ref b) H Q :=
  ⟨a, b, xs, ys, rfl, rfl, SqT.of hat, SqT.of hb, hz, fun e => k b H (Same.refl H) (by rw [e]; exact hb), fun _ e => k a H (Same.refl H) (by rw [e, List.append_nil]; exact hat), fun _ _ p hp => k p _ (Same.new hp) upd_same⟩
/-- the wider tables: what m states did they do -/
structure WideOf (T : List (List Nat)) (m : Nat) (T' : List (List Nat)) (n : Nat) : Prop where
  len : T'.length = T.length
  le : m ≤ n
  same : ∀ d, d < T.length → ∀ s, s < m → stp T' d s = stp T d s
/-- small tables: up to eight deeds, m states -/
structure TabM (T : List (List Nat)) (m : Nat) : Prop where
  d1 : 1 ≤ T.length
  d8 : T.length ≤ 8
  m1 : 1 ≤ m
  m9 : m ≤ 9
  len : ∀ r ∈ T, r.length = m
  lt : ∀ r ∈ T, ∀ x ∈ r, x < m
def lcScope : List Stmt → Scope
  | [_, .Return (some (.ListComp _ _ sc _)) _] => sc
  | _ => { kind := .function, names := [], isGenerator := false, isCoroutine := false }
theorem SameBut.refl (b : Addr) (H : Hp) : SameBut b H H := fun _ _ _ e => e
theorem SameBut.of {b : Addr} {H H' : Hp} (s : Same H H') : SameBut b H H' := fun x o _ e => s x o e
theorem BoxAt.same {b : Addr} {H H' : Hp} (h : BoxAt H b) (s : Same H H') : BoxAt H' b := by
  obtain ⟨x, y, e, h1, h2⟩ := h
  exact ⟨x, y, s _ _ e, h1, h2⟩
theorem BoxAt.ne {b p : Addr} {H : Hp} (h : BoxAt H b) (hp : H p = none) : b ≠ p := by
  obtain ⟨x, y, e, _⟩ := h
  exact ne_of_none e hp
theorem BoxAt.tup {b p : Addr} {H : Hp} {xs : List V} (h : BoxAt H b) (hp : H p = some (.tup xs)) : p ≠ b := by
  obtain ⟨x, y, e, _⟩ := h
  exact ne_of hp e (by intro z; cases z)
theorem BoxAt.upd {b p : Addr} {H : Hp} {o : HO} (h : BoxAt H b) (hp : b ≠ p) : BoxAt (L2.upd H p o) b := by
  obtain ⟨x, y, e, h1, h2⟩ := h
  exact ⟨x, y, (upd_ne hp).trans e, h1, h2⟩
section
variable {w : World} {K : PySem.W.Frag} {mg : Str → Option Value} {base : Heap}
def spWider : Sp := fun vs H Q _ => ∃ (b tb : Addr) (as : List Addr) (T : List (List Nat)) (m : Nat), vs = [.ref b, .ref tb] ∧ BoxAt H b ∧ H tb = some (.lst (as.map V.ref)) ∧ tb ≠ b ∧ RowsAt H as T ∧ TabM T m ∧
  ∀ H' tb' as' T' n, SameBut b H H' → BoxAt H' b → H tb' = none → H' tb' = some (.lst (as'.map V.ref)) → RowsAt H' as' T' → TabOk T' n → WideOf T m T' n → Q (.ref tb') H'
abbrev N_law_wider : List Str := ["_law_box_here", "_law_tables", "_law_many", "_law_more", "_law_state", "_law_table"]
theorem sc_law_wider : FnScope N_law_wider ["_law_box_here", "_law_tables"] (defScope s_law_wider) := ⟨rfl, rfl, rfl, by decide +kernel, rfl, by decide +kernel, by decide +kernel⟩
theorem ok_law_wider {f : Addr} {fd : FuncData} (F : Fd K "_law_wider" "_law_wider" s_law_wider f fd) (B : Bu mg) (C_law_take : Cal Pg w K mg base 1 "_law_take" ["_law_box_here", "_law_many"] spTake) : FnOk Pg w K mg base (L2.CX Pg w) 2 f fd ["_law_box_here", "_law_tables"] spWider := by
  refine okN F sc_law_wider (fun vs H Q E ⟨b, tb, as, T, m, e, _⟩ => by rw [e] <;> rfl) fun cdv A outer s0 H vs Q E hr ⟨b, tb, as, T, m, ev, hb, htb, hne, hR, hT, q⟩ => ?_
  subst ev
  refine ⟨_, (pss_cons (ps_asg (pe_tup (pa_cons (pe_callB call_len_seq (by rfl) B.len (by decide +kernel) (pa_cons (pe_ix ix_list (pv 1) pe_int (fun _ _ => rfl)) pa_nil)) (pa_cons (pe_cal C_law_take hr (by rfl) passL (pa_cons (pv 0) (pa_cons pe_int pa_nil))) pa_nil))) (pg_tup rfl (pgs_cons (pg_name (i := 2) sc_law_wider.nd rfl (Or.inr rfl)) (pgs_cons (pg_name (i := 3) sc_law_wider.nd rfl (Or.inr rfl)) pgs_nil))))
  (pss_one (ps_ret (pe_lc (own := [("_law_table", 5)]) (tt := tYes) rfl sc_law_wider.nd (pi_list (pv 1)) (blkOk_by (own := [("_law_table", 5)]) (N := N_law_wider) (sc := defScope s_law_wider) (by decide +kernel)) (fun _ _ _ _ _ => (pg_name (i := 5) sc_law_wider.nd rfl (Or.inl rfl))) (fun _ _ _ _ _ => pts_nil) (fun _ _ _ _ _ => (pe_op (r := rCatA K) op_catA (pv 5) (pe_callTy (T := "tuple") (r := rTupOf K) call_tuple_of (by rfl) B.tuple (by decide +kernel) (pa_cons (pe_lc (own := [("_law_state", 4)]) (tt := tYes) rfl sc_law_wider.nd (pi_range1 (by rfl) B.range (pa_cons (pv 3) pa_nil)) (blkOk_by (own := [("_law_state", 4)]) (N := N_law_wider) (sc := relS (lcScope (defBody s_law_wider)) (defScope s_law_wider)) (by decide +kernel)) (fun _ _ _ _ _ => (pg_name (i := 4) sc_law_wider.nd rfl (Or.inl rfl))) (fun _ _ _ _ _ => pts_nil) (fun _ _ _ _ _ => (pe_cal C_law_take hr (by rfl) passL (pa_cons (pv 0) (pa_cons (pe_op op_add (pv 2) (pv 3)) pa_nil))))) pa_nil)))))))), ?_⟩
  have hd8 := hT.d8
  have hm9 := hT.m9
  have hm1 := hT.m1
  obtain ⟨p0, r0, e0, f0, g0⟩ := hR.get (i := 0) (by have := hT.d1; omega)
  have hr0 : r0.length = m := hT.len _ (List.mem_of_getElem? f0)
  have len0 : (((iv r0).length : Nat) : Int) = (m : Int) := by rw [List.length_map, hr0]
  have eas : (as.map V.ref).length = T.length := by rw [List.length_map, hR.1]
  refine ⟨_, rfl, tb, _, _, _, rfl, rfl, SqL.of htb, at0 (by rw [List.getElem?_map, e0] <;> rfl), p0, _, rfl, .inr (SqT.of g0), ?_⟩
  rw [len0]
  refine ⟨_, rfl, b, 4, rfl, hb, by decide, by decide, fun H1 k hk s1 hb1 => ?_⟩
  refine ⟨by show 2 ≤ sizeLine; decide, fun tp ntp => ?_⟩
  have st : Same H1 (upd H1 tp (.tup [vi m, vi k])) := Same.new ntp
  refine ⟨tp, _, rfl, SqT.of upd_same, rfl, _, _, rfl, _, _, rfl, rfl, ?_⟩
  obtain ⟨H2, e2⟩ : ∃ H2, H2 = upd H1 tp (.tup [vi m, vi k]) := ⟨_, rfl⟩
  have s2 : SameBut b H H2 := by rw [e2]; exact s1.trans (.of st)
  have hb2 : BoxAt H2 b := by rw [e2]; exact hb1.same st
  rw [← e2]
  clear e2 st s1 hb1 ntp
  -- the comprehension
  refine ⟨_, rfl, tb, rfl, ⟨_, SqL.of (s2 _ _ hne htb)⟩, fun D hD => ?_⟩
  have hDH : H D = none := by
    cases z : H D with
    | none => rfl
    | some o =>
      by_cases hDb : D = b
      · exact absurd rfl (hDb ▸ hb2.ne hD)
      · rw [s2 _ _ hDb z] at hD
        cases hD
  have Db : b ≠ D := hb2.ne hD
  refine lc_list (K := K) (a := tb) (xs := as.map V.ref) (fun i H3 => ∃ (as' : List Addr) (T' : List (List Nat)), SameBut b H H3 ∧ BoxAt H3 b ∧ H3 D = some (.lst (as'.map V.ref)) ∧ RowsAt H3 as' T' ∧ T'.length = i ∧
      ∀ (j : Nat) (r' : List Nat), T'[j]? = some r' → ∃ r ext, T[j]? = some r ∧ r' = r ++ ext ∧ ext.length = k ∧ ∀ x ∈ ext, x < m + k)
    ⟨[], [], s2.trans (.of (Same.new hD)), hb2.same (Same.new hD), upd_same, ⟨rfl, fun i a r h => by simp at h⟩, rfl, fun j r' h => by simp at h⟩
    (fun i H3 _ ⟨_, _, s3, _⟩ => SqL.of (s3 _ _ hne htb)) (fun i x H3 hx ⟨as', T', s3, hb3, hD3, hR3, hl3, hE3⟩ => ?_) fun H3 ⟨as', T', s3, hb3, hD3, hR3, hl3, hE3⟩ => ?_
  · have hi2 : i < T.length := by
      have := (List.getElem?_eq_some_iff.mp hx).1
      omega
    obtain ⟨p, r, e1, f1, g1⟩ := hR.get hi2
    obtain rfl : V.ref p = x := by
      rw [List.getElem?_map, e1] at hx
      exact Option.some.inj hx
    have hrm := List.mem_of_getElem? f1
    have hrl := hT.len r hrm
    have g3 : H3 p = some (.tup (iv r)) := s3 _ _ (hb.tup g1) g1
    refine ⟨rfl, yesT (iteT ?_)⟩
    refine ⟨_, rfl, _, rfl, (k : Int), rfl, by omega, by omega, ?_⟩
    rw [Int.toNat_natCast]
    refine fun D2 hD2 => ?_
    have D2b : b ≠ D2 := hb3.ne hD2
    have D2D : D ≠ D2 := ne_of_none hD3 hD2
    refine lc_range (lo := 0) (n := k) (fun j H4 => ∃ ext : List Nat, SameBut b H3 H4 ∧ BoxAt H4 b ∧ H4 D2 = some (.lst (iv ext)) ∧ ext.length = j ∧ ∀ x ∈ ext, x < m + k)
      ⟨[], .of (Same.new hD2), hb3.same (Same.new hD2), upd_same, rfl, fun x hx => by cases hx⟩ (fun j H4 hj ⟨ext, s4, hb4, hD4, hl4, hx4⟩ => ?_) fun H4 ⟨ext, s4, hb4, hD4, hl4, hx4⟩ => ?_
    · refine ⟨rfl, yesT (iteT ?_)⟩
      refine ⟨_, rfl, _, rfl, _, rfl, _, _, rfl, rfl, b, m + k, by show [V.ref b, V.int ((m : Int) + (k : Int))] = [V.ref b, V.int ((m + k : Nat) : Int)]; rw [Int.natCast_add], hb4, by omega, by omega, fun H5 z hz s5 hb5 => ?_⟩
      have hD5 := s5 _ _ (Ne.symm D2b) hD4
      refine ⟨_, hD5, small1000 (by rw [List.length_map]; omega), ext ++ [z], fun x o hxb e => ?_, hb5.upd D2b, ?_, by rw [List.length_append, hl4] <;> rfl, fun x hx => ?_⟩
      · by_cases h2 : x = D2
        · rw [h2, hD2] at e
          cases e
        · rw [upd_ne h2]
          exact s5 _ _ hxb (s4 _ _ hxb e)
      · rw [upd_same]
        show some (HO.lst (iv ext ++ [vi z])) = some (HO.lst ((ext ++ [z]).map vi))
        rw [List.map_append] <;> rfl
      · rcases List.mem_append.mp hx with h | h
        · exact hx4 x h
        · rw [List.mem_singleton.mp h]
          exact hz
    · refine ⟨D2, _, rfl, .inl ⟨SqL.of hD4, fun l hl => ?_⟩⟩
      have sl : Same H4 (upd H4 l (.tup (iv ext))) := Same.new hl
      refine catA_gen (sl _ _ (s4 _ _ (hb.tup g1) g3)) upd_same (line_of (by rw [List.length_map, List.length_map]; omega)) fun rr H5 s5 hrr => ?_
      have s35 : SameBut b H3 H5 := s4.trans (.of (sl.trans s5))
      have hb5 : BoxAt H5 b := hb4.same (sl.trans s5)
      have hD5 := s35 _ _ (Ne.symm Db) hD3
      have hR5 : RowsAt H5 as' T' := hR3.same fun x xs e => s35 _ _ (hb3.tup e) e
      have hrr' : H5 rr = some (.tup (iv (r ++ ext))) := by
        rw [hrr]
        show some (HO.tup (r.map vi ++ ext.map vi)) = some (HO.tup ((r ++ ext).map vi))
        rw [List.map_append]
      refine ⟨_, hD5, small1000 (by rw [List.length_map, hR3.1, hl3]; omega), as' ++ [rr], T' ++ [r ++ ext], fun x o hxb e => ?_, hb5.upd Db, by rw [upd_same, List.map_append] <;> rfl, ?_, by rw [List.length_append, hl3] <;> rfl, fun j r' h => ?_⟩
      · by_cases h2 : x = D
        · rw [h2, hDH] at e
          cases e
        · rw [upd_ne h2]
          exact s35 _ _ hxb (s3 _ _ hxb e)
      · refine ⟨by rw [List.length_append, List.length_append, hR3.1] <;> rfl, fun j a r' ha hr' => ?_⟩
        rcases Nat.lt_trichotomy j T'.length with h | h | h
        · rw [List.getElem?_append_left h] at hr'
          rw [List.getElem?_append_left (by rw [hR3.1]; exact h)] at ha
          have := hR5.2 j a r' ha hr'
          exact (upd_ne (ne_of this hD5 (by intro z; cases z))).trans this
        · subst h
          rw [List.getElem?_concat_length] at hr'
          rw [← hR3.1, List.getElem?_concat_length] at ha
          cases ha
          cases hr'
          exact (upd_ne (ne_of hrr' hD5 (by intro z; cases z))).trans hrr'
        · rw [List.getElem?_eq_none (by rw [List.length_append, List.length_singleton]; omega)] at hr'
          cases hr'
      · rcases Nat.lt_trichotomy j T'.length with h' | h' | h'
        · rw [List.getElem?_append_left h'] at h
          exact hE3 j r' h
        · subst h'
          rw [List.getElem?_concat_length] at h
          cases h
          rw [hl3]
          exact ⟨r, ext, f1, rfl, hl4, hx4⟩
        · rw [List.getElem?_eq_none (by rw [List.length_append, List.length_singleton]; omega)] at h
          cases h
  · rw [eas] at hl3
    refine q H3 D as' T' (m + k) s3 hb3 hDH hD3 hR3 ⟨by rw [hl3]; exact hT.d1, by rw [hl3]; exact hd8, by omega, by omega, fun r' hr' => ?_, fun r' hr' x hx => ?_⟩ ⟨hl3, by omega, fun d hd s hs => ?_⟩
    · obtain ⟨j, hj⟩ := List.mem_iff_getElem?.mp hr'
      obtain ⟨r, ext, hr, rfl, he, _⟩ := hE3 j r' hj
      rw [List.length_append, hT.len r (List.mem_of_getElem? hr), he]
    · obtain ⟨j, hj⟩ := List.mem_iff_getElem?.mp hr'
      obtain ⟨r, ext, hr, rfl, he, hx2⟩ := hE3 j r' hj
      rcases List.mem_append.mp hx with h | h
      · have := hT.lt r (List.mem_of_getElem? hr) x h
        omega
      · exact hx2 x h
    · have hj : T'[d]? = some (T'[d]'(by omega)) := List.getElem?_eq_getElem _
      obtain ⟨r, ext, hr, hre, he, _⟩ := hE3 d _ hj
      have hrl := hT.len r (List.mem_of_getElem? hr)
      unfold stp
      rw [hj, hr, hre]
      show ((r ++ ext)[s]?).getD 0 = (r[s]?).getD 0
      rw [List.getElem?_append_left (by omega)]
end
end K35
set_option maxHeartbeats 4000000
/-! The law's _law_machine. -/
namespace K35
open PySem PySem.Spec PyProof.Rows L2
/-- one tuple of sizes -/
def SzAt (H : Hp) (v : V) (ps : List (Nat × Nat)) : Prop := ∃ (t : Addr) (qs : List Addr), v = .ref t ∧ H t = some (.tup (qs.map V.ref)) ∧ qs.length = ps.length ∧
  ∀ (i : Nat) (q : Addr) (p : Nat × Nat), qs[i]? = some q → ps[i]? = some p → H q = some (.tup [vi p.1, vi p.2])
theorem SzAt.keep {H H' : Hp} {v : V} {ps : List (Nat × Nat)} (h : SzAt H v ps) (s : ∀ b xs, H b = some (.tup xs) → H' b = some (.tup xs)) : SzAt H' v ps := by
  obtain ⟨t, qs, a, b, c, d⟩ := h
  exact ⟨t, qs, a, s _ _ b, c, fun i q p e1 e2 => s _ _ (d i q p e1 e2)⟩
def SzL (H : Hp) (vs : List V) (pss : List (List (Nat × Nat))) : Prop := vs.length = pss.length ∧ ∀ (i : Nat) (v : V) (ps : List (Nat × Nat)), vs[i]? = some v → pss[i]? = some ps → SzAt H v ps
theorem SzL.keep {H H' : Hp} {vs : List V} {pss : List (List (Nat × Nat))} (h : SzL H vs pss) (s : ∀ b xs, H b = some (.tup xs) → H' b = some (.tup xs)) : SzL H' vs pss := ⟨h.1, fun i v ps e1 e2 => (h.2 i v ps e1 e2).keep s⟩
theorem SzL.snoc {H : Hp} {vs : List V} {pss : List (List (Nat × Nat))} (h : SzL H vs pss) {v : V} {ps : List (Nat × Nat)} (hv : SzAt H v ps) : SzL H (vs ++ [v]) (pss ++ [ps]) := by
  refine ⟨by rw [List.length_append, List.length_append, h.1] <;> rfl, fun i q s e1 e2 => ?_⟩
  rcases Nat.lt_trichotomy i vs.length with hi | hi | hi
  · rw [List.getElem?_append_left hi] at e1
    rw [List.getElem?_append_left (by rw [← h.1]; exact hi)] at e2
    exact h.2 i q s e1 e2
  · subst hi
    rw [List.getElem?_concat_length] at e1
    rw [h.1, List.getElem?_concat_length] at e2
    cases e1
    cases e2
    exact hv
  · rw [List.getElem?_eq_none (by rw [List.length_append, List.length_singleton]; omega)] at e1
    cases e1
theorem Same.tups {H H' : Hp} (s : Same H H') : ∀ b xs, H b = some (.tup xs) → H' b = some (.tup xs) := fun _ _ e => s _ _ e
theorem tups_trans {H H' H2 : Hp} (a : Same H H') (b : Same H' H2) : ∀ c xs, H c = some (.tup xs) → H2 c = some (.tup xs) := fun _ _ e => b _ _ (a _ _ e)
theorem rd_s1 {a r : Nat} {σ : L2.St} {H : Hp} {Q : VK} {vs : List V} {pss : List (List (Nat × Nat))} (h : SzL H vs pss) (k : ∀ v H', Same H H' → SzL H' (vs ++ [v]) (pss ++ [[(a, r)]]) → Q v H') : tTup (tCons (tTup (tCons (tC (vi a)) (tCons (tC (vi r)) tNil))) tNil) σ H Q := by
  refine ⟨by show 2 ≤ sizeLine; decide, fun p np => ⟨by show 1 ≤ sizeLine; decide, fun t nt => ?_⟩⟩
  have s1 : Same H (upd H p (.tup [vi a, vi r])) := Same.new np
  have s2 : Same (upd H p (.tup [vi a, vi r])) (upd (upd H p (.tup [vi a, vi r])) t (.tup [.ref p])) := Same.new nt
  refine k _ _ (s1.trans s2) ((h.keep (tups_trans s1 s2)).snoc ⟨t, [p], rfl, upd_same, rfl, fun i q z e1 e2 => ?_⟩)
  cases i with
  | zero =>
    cases e1
    cases e2
    exact s2 _ _ upd_same
  | succ i => simp at e1
theorem rd_s2 {a r c d : Nat} {σ : L2.St} {H : Hp} {Q : VK} {vs : List V} {pss : List (List (Nat × Nat))} (h : SzL H vs pss) (k : ∀ v H', Same H H' → SzL H' (vs ++ [v]) (pss ++ [[(a, r), (c, d)]]) → Q v H') : tTup (tCons (tTup (tCons (tC (vi a)) (tCons (tC (vi r)) tNil))) (tCons (tTup (tCons (tC (vi c)) (tCons (tC (vi d)) tNil))) tNil)) σ H Q := by
  refine ⟨by show 2 ≤ sizeLine; decide, fun p np => ⟨by show 2 ≤ sizeLine; decide, fun p2 np2 => ⟨by show 2 ≤ sizeLine; decide, fun t nt => ?_⟩⟩⟩
  have s1 : Same H (upd H p (.tup [vi a, vi r])) := Same.new np
  have s2 : Same (upd H p (.tup [vi a, vi r])) (upd (upd H p (.tup [vi a, vi r])) p2 (.tup [vi c, vi d])) := Same.new np2
  have s3 : Same (upd (upd H p (.tup [vi a, vi r])) p2 (.tup [vi c, vi d])) (upd (upd (upd H p (.tup [vi a, vi r])) p2 (.tup [vi c, vi d])) t (.tup [.ref p, .ref p2])) := Same.new nt
  refine k _ _ ((s1.trans s2).trans s3) ((h.keep (tups_trans (s1.trans s2) s3)).snoc ⟨t, [p, p2], rfl, upd_same, rfl, fun i q z e1 e2 => ?_⟩)
  cases i with
  | zero =>
    cases e1
    cases e2
    exact (s2.trans s3) _ _ upd_same
  | succ i =>
    cases i with
    | zero =>
      cases e1
      cases e2
      exact s3 _ _ upd_same
    | succ i => simp at e1
theorem seq_in {a b : TS} {D : L2.Ends} {σ : L2.St} {H : Hp} (h : a { D with nx := b D } σ H) : tSeq a b D σ H := h
theorem asg_in {te : TE} {g : TG} {D : L2.Ends} {σ : L2.St} {H : Hp} (h : te σ H fun x H1 => g x σ H1 D.nx) : tAsg te g D σ H := h
theorem lst_in {t : TA} {σ : L2.St} {H : Hp} {Q : VK} (h : t σ H fun xs H1 => xs.length ≤ sizeLine ∧ ∀ p, H1 p = none → Q (.ref p) (upd H1 p (.lst xs))) : tLst t σ H Q := h
theorem con_in {ta : TE} {tr : TA} {σ : L2.St} {H : Hp} {Q : List V → Hp → Prop} (h : ta σ H fun x H1 => tr σ H1 fun xs H2 => Q (x :: xs) H2) : tCons ta tr σ H Q := h
theorem u65 {k : Nat} {A : Around} (r : Room k A) : A.units + 65 < cLine := by have := r.un; omega
theorem six {n k : Nat} (h : k < n) : seqIndex? (k : Int) n = some k := by
  unfold seqIndex?
  simp only []
  rw [if_neg (show ¬ (k : Int) < 0 by omega), decide_eq_true (show (0 : Int) ≤ k by omega), decide_eq_true (show (k : Int) < n by omega)]
  rfl
theorem rgV0 (n : Nat) : rgV 0 (n : Int) = iv (List.range n) := by
  unfold rgV
  rw [show ((n : Int) - 0).toNat = n by omega]
  exact List.map_congr_left fun i _ => by rw [Int.zero_add]
theorem erase_perm : ∀ {l : List Nat} {k x : Nat}, l[k]? = some x → (x :: l.eraseIdx k).Perm l
  | [], k, x, h => by simp at h
  | y :: l, 0, x, h => by
    cases h
    exact List.Perm.refl _
  | y :: l, k + 1, x, h => (List.Perm.swap y x _).trans ((erase_perm (l := l) (k := k) h).cons y)
theorem iv_erase : ∀ (l : List Nat) (k : Nat), (iv l).eraseIdx k = iv (l.eraseIdx k)
  | [], _ => rfl
  | x :: l, 0 => rfl
  | x :: l, k + 1 => congrArg (List.cons (vi x)) (iv_erase l k)
theorem rep0 : ∀ n : Nat, (List.replicate n [V.int 0]).flatten = iv (List.replicate n 0)
  | 0 => rfl
  | n + 1 => by
    rw [List.replicate_succ, List.flatten_cons, rep0 n, List.replicate_succ] <;> rfl
theorem iv_set (l : List Nat) (k x : Nat) : (iv l).set k (vi x) = iv (l.set k x) := by
  show (l.map vi).set k (vi x) = (l.set k x).map vi
  rw [List.map_set]
theorem nrm_ge {p : Nat × Nat} {x y : Nat} (h0 : 1 ≤ p.2) (h : ¬ x + y < p.1) : V.int ((p.1 : Int) + (((x : Int) + (y : Int) - (p.1 : Int)).fmod (p.2 : Int))) = vi (nrm p (x + y)) := by
  have e : ((x : Int) + (y : Int) - (p.1 : Int)) = ((x + y - p.1 : Nat) : Int) := by omega
  rw [e, nrm, if_neg h, Int.fmod_eq_emod_of_nonneg _ (by omega), ← Int.natCast_emod, ← Int.natCast_add]
theorem ixN_k {n j : Nat} (hj : j < n) : ixN n (j : Int) = some j := by
  unfold ixN
  rw [if_pos (by omega), if_pos (by omega)] <;> rfl
theorem iv_app (a b : List Nat) : iv (a ++ b) = iv a ++ iv b := List.map_append
theorem szl_nil {H : Hp} : SzL H [] [] := ⟨rfl, fun i v ps h => by simp at h⟩
theorem SameBut.updN {b x : Addr} {H H' : Hp} {o : HO} (s : SameBut b H H') (hx : H x = none) : SameBut b H (upd H' x o) := fun y u hy e => (upd_ne (ne_of_none e hx)).trans (s y u hy e)
theorem Same.updN {x : Addr} {H H' : Hp} {o : HO} (s : Same H H') (hx : H x = none) : Same H (upd H' x o) := fun y u e => (upd_ne (ne_of_none e hx)).trans (s y u e)
theorem none_of {H H' : Hp} {x : Addr} (s : Same H H') (h : H' x = none) : H x = none := by
  cases z : H x with
  | none => rfl
  | some o => rw [s _ _ z] at h; cases h
theorem none_ofB {b : Addr} {H H' : Hp} {x : Addr} (s : SameBut b H H') (hb : BoxAt H' b) (h : H' x = none) : H x = none := by
  cases z : H x with
  | none => rfl
  | some o =>
    by_cases hxb : x = b
    · exact absurd hxb.symm (hb.ne h)
    · rw [s _ _ hxb z] at h
      cases h
theorem RowsAt.snoc {H : Hp} {as : List Addr} {T : List (List Nat)} (h : RowsAt H as T) {a : Addr} {r : List Nat} (ha : H a = some (.tup (iv r))) : RowsAt H (as ++ [a]) (T ++ [r]) := by
  refine ⟨by rw [List.length_append, List.length_append, h.1] <;> rfl, fun j a' r' ha' hr' => ?_⟩
  rcases Nat.lt_trichotomy j T.length with h2 | h2 | h2
  · rw [List.getElem?_append_left h2] at hr'
    rw [List.getElem?_append_left (by rw [h.1]; exact h2)] at ha'
    exact h.2 j a' r' ha' hr'
  · subst h2
    rw [List.getElem?_concat_length] at hr'
    rw [← h.1, List.getElem?_concat_length] at ha'
    cases ha'
    cases hr'
    exact ha
  · rw [List.getElem?_eq_none (by rw [List.length_append, List.length_singleton]; omega)] at hr'
    cases hr'
theorem RowsAt.app {H : Hp} {as bs : List Addr} {T U : List (List Nat)} (h : RowsAt H as T) (h2 : RowsAt H bs U) : RowsAt H (as ++ bs) (T ++ U) := by
  refine ⟨by rw [List.length_append, List.length_append, h.1, h2.1], fun j a r ha hr => ?_⟩
  by_cases hj : j < T.length
  · rw [List.getElem?_append_left hj] at hr
    rw [List.getElem?_append_left (by rw [h.1]; exact hj)] at ha
    exact h.2 j a r ha hr
  · rw [List.getElem?_append_right (by omega)] at hr
    rw [List.getElem?_append_right (by rw [h.1]; omega), h.1] at ha
    exact h2.2 _ a r ha hr
theorem ivmap {r : List Nat} {i : Nat} {x : V} (h : (iv r)[i]? = some x) : ∃ k, r[i]? = some k ∧ x = vi k := by
  rw [List.getElem?_map] at h
  cases e : r[i]? with
  | none => rw [e] at h; cases h
  | some z => rw [e] at h; exact ⟨z, rfl, (Option.some.inj h).symm⟩
theorem iv_at {r : List Nat} {i k : Nat} (h : r[i]? = some k) : atI (iv r) (i : Int) = some (vi k) := at_of (j := i) (by omega) (by rw [List.getElem?_map, h] <;> rfl)
/-- equal rows -/
theorem eqv_ints : ∀ {r s : List Nat}, PyData.eqvAll (r.map fun x => PyData.int ((x : Nat) : Int)) (s.map fun x => PyData.int ((x : Nat) : Int)) = true → r = s
  | [], [], _ => rfl
  | [], y :: s, h => by simp [PyData.eqvAll] at h
  | x :: r, [], h => by simp [PyData.eqvAll] at h
  | x :: r, y :: s, h => by
    simp only [List.map_cons, PyData.eqvAll, PyData.eqv, Bool.and_eq_true, beq_iff_eq] at h
    have := h.1
    rw [eqv_ints h.2, show x = y by omega]
theorem eqv_row {r s : List Nat} (h : r ≠ s) : PyData.eqv (dRow r) (dRow s) = false := by
  cases e : PyData.eqv (dRow r) (dRow s) with
  | false => rfl
  | true =>
    unfold dRow at e
    rw [PyData.eqv] at e
    exact absurd (eqv_ints e) h
theorem sh_row (r : List Nat) : SeqAt.shaped (dRow r) = true := by
  unfold SeqAt.shaped
  have h := cl_ints r
  have e1 : (dRow r).canLay0 = true := by simp only [dRow, PyData.canLay0, h.1]
  have e2 : (dRow r).depth ≤ 64 := by simp only [dRow, PyData.depth, h.2]; omega
  rw [e1, decide_eq_true e2] <;> rfl
theorem cl_row (r : List Nat) : (dRow r).canLay0 = true := by simp only [dRow, PyData.canLay0, (cl_ints r).1]
theorem sh_rows (T : List (List Nat)) : SeqAt.shaped (.list (T.map dRow)) = true := by
  unfold SeqAt.shaped
  have h := cl_rows T
  have e1 : (PyData.list (T.map dRow)).canLay0 = true := by simp only [PyData.canLay0, h.1]
  have e2 : (PyData.list (T.map dRow)).depth ≤ 64 := by simp only [PyData.depth]; omega
  rw [e1, decide_eq_true e2] <;> rfl
section
variable {w : World} {K : PySem.W.Frag} {mg : Str → Option Value} {base : Heap}
def spLMach : Sp := fun vs H Q _ => ∃ (b : Addr), vs = [.ref b] ∧ BoxAt H b ∧
  ∀ H' tb as T m, SameBut b H H' → BoxAt H' b → H tb = none → H' tb = some (.lst (as.map V.ref)) → RowsAt H' as T → TabM T m → (∀ d e s, d < T.length → e < T.length → s < m → stp T d s < m ∧ stp T d (stp T e s) = stp T e (stp T d s)) → Q (.ref tb) H'
abbrev N_law_machine : List Str := ["_law_box_here", "_law_some", "_law_sizes", "_law_states", "_law_ahead_here", "_law_ring", "_law_longer", "_law_state", "_law_value", "_law_names", "_law_left", "_law_found", "_law_deed", "_law_adds", "_law_table", "_law_at", "_law_after", "_law_part"]
theorem sc_law_machine : FnScope N_law_machine ["_law_box_here"] (defScope s_law_machine) := ⟨rfl, rfl, rfl, by decide +kernel, rfl, by decide +kernel, by decide +kernel⟩
theorem ok_law_machine {f : Addr} {fd : FuncData} (F : Fd K "_law_machine" "_law_machine" s_law_machine f fd) (B : Bu mg) (C_law_take : Cal Pg w K mg base 1 "_law_take" ["_law_box_here", "_law_many"] spTake) (C_law_pick : Cal Pg w K mg base 2 "_law_pick" ["_law_box_here", "_law_some"] (spPick K)) : FnOk Pg w K mg base (L2.CX Pg w) 3 f fd ["_law_box_here"] spLMach := by
  refine okN F sc_law_machine (fun vs H Q E ⟨b, e, _⟩ => by rw [e] <;> rfl) fun cdv A outer s0 H vs Q E hr ⟨b, ev, hb, q⟩ => ?_
  subst ev
  have hr1 := hr.mono (by decide : 1 ≤ 2)
  have hu65 := u65 hr
  refine ⟨_, (pss_cons (ps_set (i := 1) sc_law_machine.nd rfl (Or.inl rfl) (pe_lst (pa_cons (pe_tup (pa_cons (pe_tup (pa_cons pe_int (pa_cons pe_int pa_nil))) pa_nil)) (pa_cons (pe_tup (pa_cons (pe_tup (pa_cons pe_int (pa_cons pe_int pa_nil))) pa_nil)) (pa_cons (pe_tup (pa_cons (pe_tup (pa_cons pe_int (pa_cons pe_int pa_nil))) pa_nil)) (pa_cons (pe_tup (pa_cons (pe_tup (pa_cons pe_int (pa_cons pe_int pa_nil))) pa_nil)) (pa_cons (pe_tup (pa_cons (pe_tup (pa_cons pe_int (pa_cons pe_int pa_nil))) pa_nil)) (pa_cons (pe_tup (pa_cons (pe_tup (pa_cons pe_int (pa_cons pe_int pa_nil))) (pa_cons (pe_tup (pa_cons pe_int (pa_cons pe_int pa_nil))) pa_nil))) pa_nil))))))))
  (pss_cons (ps_set (i := 2) sc_law_machine.nd rfl (Or.inl rfl) (pe_cal C_law_pick hr (by rfl) passL (pa_cons (pv 0) (pa_cons (pe_op op_cat (pv 1) (pe_lst (pa_cons (pe_tup (pa_cons (pe_tup (pa_cons pe_int (pa_cons pe_int pa_nil))) (pa_cons (pe_tup (pa_cons pe_int (pa_cons pe_int pa_nil))) pa_nil))) (pa_cons (pe_tup (pa_cons (pe_tup (pa_cons pe_int (pa_cons pe_int pa_nil))) (pa_cons (pe_tup (pa_cons pe_int (pa_cons pe_int pa_nil))) pa_nil))) (pa_cons (pe_tup (pa_cons (pe_tup (pa_cons pe_int (pa_cons pe_int pa_nil))) pa_nil)) (pa_cons (pe_tup (pa_cons (pe_tup (pa_cons pe_int (pa_cons pe_int pa_nil))) pa_nil)) (pa_cons (pe_tup (pa_cons (pe_tup (pa_cons pe_int (pa_cons pe_int pa_nil))) (pa_cons (pe_tup (pa_cons pe_int (pa_cons pe_int pa_nil))) pa_nil))) (pa_cons (pe_tup (pa_cons (pe_tup (pa_cons pe_int (pa_cons pe_int pa_nil))) pa_nil)) pa_nil)))))))) pa_nil))))
  (pss_cons (ps_set (i := 3) sc_law_machine.nd rfl (Or.inl rfl) (pe_lst (pa_cons (pe_tup pa_nil) pa_nil)))
  (pss_cons (ps_for PassesOwn.never rfl (pi_tup (pv 2)) (pg_tup rfl (pgs_cons (pg_name (i := 4) sc_law_machine.nd rfl (Or.inl rfl)) (pgs_cons (pg_name (i := 5) sc_law_machine.nd rfl (Or.inl rfl)) pgs_nil)))
   (pss_cons (ps_set (i := 6) sc_law_machine.nd rfl (Or.inl rfl) (pe_lst pa_nil))
  (pss_cons (ps_for PassesOwn.never rfl (pi_list (pv 3)) (pg_name (i := 7) sc_law_machine.nd rfl (Or.inr rfl))
   (pss_one (ps_set (i := 6) sc_law_machine.nd rfl (Or.inl rfl) (pe_op op_cat (pv 6) (pe_lc (own := [("_law_value", 8)]) (tt := tYes) rfl sc_law_machine.nd (pi_range1 (by rfl) B.range (pa_cons (pe_op op_add (pv 4) (pv 5)) pa_nil)) (blkOk_by (own := [("_law_value", 8)]) (N := N_law_machine) (sc := defScope s_law_machine) (by decide +kernel)) (fun _ _ _ _ _ => (pg_name (i := 8) sc_law_machine.nd rfl (Or.inl rfl))) (fun _ _ _ _ _ => pts_nil) (fun _ _ _ _ _ => (pe_op (r := rCatA K) op_catA (pv 7) (pe_tup (pa_cons (pv 8) pa_nil)))))))))
  (pss_one (ps_set (i := 3) sc_law_machine.nd rfl (Or.inl rfl) (pv 6))))))
  (pss_cons (ps_par (i := 9) (j := 10) (by rfl) sc_law_machine.nd rfl rfl (by decide) rfl rfl (pa_cons (pe_lst pa_nil) (pa_cons (pe_listRg rfl (by rfl) B.list (prg_1 (by rfl) B.range (pe_callB call_len_seq (by rfl) B.len (by decide +kernel) (pa_cons (pv 3) pa_nil)))) pa_nil)) (by rfl))
  (pss_cons (ps_for PassesOwn.never rfl (pi_list (pv 3)) (pg_name (i := 7) sc_law_machine.nd rfl (Or.inr rfl))
   (pss_one (ps_expr (pe_bm PySem.F.plainAttrs_list PySem.F.slot_list_append PySem.F.type_list_append mt_append (pv 9) (pa_cons (pe_bm PySem.F.plainAttrs_list PySem.F.slot_list_pop PySem.F.type_list_pop mt_popAt (pv 10) (pa_cons (pe_cal C_law_take hr1 (by rfl) passL (pa_cons (pv 0) (pa_cons (pe_callB call_len_seq (by rfl) B.len (by decide +kernel) (pa_cons (pv 10) pa_nil)) pa_nil))) pa_nil)) pa_nil)))))
  (pss_cons (ps_set (i := 11) sc_law_machine.nd rfl (Or.inl rfl) (pe_lst pa_nil))
  (pss_cons (ps_for PassesOwn.never rfl (pi_range1 (by rfl) B.range (pa_cons (pe_op op_add pe_int (pe_cal C_law_take hr1 (by rfl) passL (pa_cons (pv 0) (pa_cons pe_int pa_nil)))) pa_nil)) (pg_name (i := 12) sc_law_machine.nd rfl (Or.inl rfl))
   (pss_cons (ps_par (i := 13) (j := 14) (by rfl) sc_law_machine.nd rfl rfl (by decide) rfl rfl (pa_cons (pe_lc (own := [("_law_ahead_here", 4), ("_law_ring", 5)]) (g := gTup K 2 (gCons (gName 4) (gCons (gName 5) gNil))) (tt := tYes) rfl sc_law_machine.nd (pi_tup (pv 2)) (blkOk_by (own := [("_law_ahead_here", 4), ("_law_ring", 5)]) (N := N_law_machine) (sc := defScope s_law_machine) (by decide +kernel)) (fun _ _ _ _ _ => (pg_tup rfl (pgs_cons (pg_name (i := 4) sc_law_machine.nd rfl (Or.inl rfl)) (pgs_cons (pg_name (i := 5) sc_law_machine.nd rfl (Or.inl rfl)) pgs_nil)))) (fun _ _ _ _ _ => pts_nil) (fun _ _ _ _ _ => (pe_cal C_law_take hr1 (by rfl) passL (pa_cons (pv 0) (pa_cons (pe_op op_add (pv 4) (pv 5)) pa_nil))))) (pa_cons (pe_op op_rep (pe_lst (pa_cons pe_int pa_nil)) (pe_callB call_len_seq (by rfl) B.len (by decide +kernel) (pa_cons (pv 3) pa_nil))) pa_nil)) (by rfl))
  (pss_cons (ps_for PassesOwn.never rfl (pi_range1 (by rfl) B.range (pa_cons (pe_callB call_len_seq (by rfl) B.len (by decide +kernel) (pa_cons (pv 3) pa_nil)) pa_nil)) (pg_name (i := 15) sc_law_machine.nd rfl (Or.inl rfl))
   (pss_cons (ps_set (i := 16) sc_law_machine.nd rfl (Or.inl rfl) (pe_lst pa_nil))
  (pss_cons (ps_for PassesOwn.never rfl (pi_range1 (by rfl) B.range (pa_cons (pe_callB call_len_seq (by rfl) B.len (by decide +kernel) (pa_cons (pv 2) pa_nil)) pa_nil)) (pg_name (i := 17) sc_law_machine.nd rfl (Or.inl rfl))
   (pss_cons (ps_asg (pe_ix ix_tup (pv 2) (pv 17) (fun _ _ => rfl)) (pg_tup rfl (pgs_cons (pg_name (i := 4) sc_law_machine.nd rfl (Or.inl rfl)) (pgs_cons (pg_name (i := 5) sc_law_machine.nd rfl (Or.inl rfl)) pgs_nil))))
  (pss_cons (ps_set (i := 8) sc_law_machine.nd rfl (Or.inl rfl) (pe_op op_add (pe_ix ix_tup (pe_ix ix_list (pv 3) (pv 15) (fun _ _ => rfl)) (pv 17) (fun _ _ => rfl)) (pe_ix ix_list (pv 13) (pv 17) (fun _ _ => rfl))))
  (pss_one (ps_expr (pe_bm PySem.F.plainAttrs_list PySem.F.slot_list_append PySem.F.type_list_append mt_append (pv 16) (pa_cons (pe_ifExp (pt_cmpR op_lt (pv 8) (pv 4) (nomark _)) (pv 8) (pe_op op_add (pv 4) (pe_op op_modN (pe_callTy (T := "int") call_int1 (by rfl) B.int (by decide +kernel) (pa_cons (pe_op op_sub (pv 8) (pv 4)) pa_nil)) (pv 5)))) pa_nil)))))))
  (pss_one (ps_asg (pe_ix ix_list (pv 9) (pe_bm PySem.F.plainAttrs_list PySem.F.slot_list_index PySem.F.type_list_index (mt_indexD hu65) (pv 3) (pa_cons (pe_callTy (T := "tuple") call_tuple_of (by rfl) B.tuple (by decide +kernel) (pa_cons (pv 16) pa_nil)) pa_nil)) (fun _ _ => rfl)) (pg_sub (pv 14) (pe_ix ix_list (pv 9) (pv 15) (fun _ _ => rfl)) set_list))))))
  (pss_one (ps_expr (pe_bm PySem.F.plainAttrs_list PySem.F.slot_list_append PySem.F.type_list_append mt_append (pv 11) (pa_cons (pe_callTy (T := "tuple") call_tuple_of (by rfl) B.tuple (by decide +kernel) (pa_cons (pv 14) pa_nil)) pa_nil)))))))
  (pss_one (ps_ret (pv 11))))))))))), ?_⟩
  -- the first six
  refine seq_in (asg_in (lst_in (con_in (rd_s1 (a := 0) (r := 2) szl_nil fun v1 H1 s1 z => ?_))))
  refine con_in (rd_s1 (a := 1) (r := 1) z fun v2 H2 s2 z => ?_)
  refine con_in (rd_s1 (a := 2) (r := 1) z fun v3 H3 s3 z => ?_)
  refine con_in (rd_s1 (a := 0) (r := 3) z fun v4 H4 s4 z => ?_)
  refine con_in (rd_s1 (a := 1) (r := 2) z fun v5 H5 s5 z => ?_)
  refine con_in (rd_s2 (a := 0) (r := 2) (c := 1) (d := 1) z fun v6 H6 s6 z => ?_)
  have s06 := ((((s1.trans s2).trans s3).trans s4).trans s5).trans s6
  refine ⟨by show 6 ≤ sizeLine; decide, fun l1 nl1 => ?_⟩
  have sl1 : Same H6 (upd H6 l1 (.lst [v1, v2, v3, v4, v5, v6])) := Same.new nl1
  refine ⟨_, rfl, _, rfl, lst_in (con_in ?_)⟩
  have z := z.keep (fun b xs e => sl1 _ _ e)
  refine rd_s2 (a := 2) (r := 1) (c := 1) (d := 1) z fun v7 H7 s7 z => ?_
  refine con_in (rd_s2 (a := 0) (r := 2) (c := 0) (d := 2) z fun v8 H8 s8 z => ?_)
  refine con_in (rd_s1 (a := 3) (r := 1) z fun v9 H9 s9 z => ?_)
  refine con_in (rd_s1 (a := 2) (r := 2) z fun v10 H10 s10 z => ?_)
  refine con_in (rd_s2 (a := 1) (r := 1) (c := 1) (d := 1) z fun v11 H11 s11 z => ?_)
  refine con_in (rd_s1 (a := 0) (r := 4) z fun v12 H12 s12 z => ?_)
  have s612 := ((((s7.trans s8).trans s9).trans s10).trans s11).trans s12
  refine ⟨by show 6 ≤ sizeLine; decide, fun l2 nl2 => ?_⟩
  have sl2 : Same H12 (upd H12 l2 (.lst [v7, v8, v9, v10, v11, v12])) := Same.new nl2
  have hl1 := (s612.trans sl2) _ _ (upd_same (H := H6) (a := l1) (o := .lst [v1, v2, v3, v4, v5, v6]))
  refine ⟨l1, l2, _, _, rfl, rfl, hl1, upd_same, by show 12 ≤ sizeLine; decide, fun l3 nl3 => ?_⟩
  have sl3 : Same (upd H12 l2 (.lst [v7, v8, v9, v10, v11, v12])) (upd (upd H12 l2 (.lst [v7, v8, v9, v10, v11, v12])) l3 (.lst ([v1, v2, v3, v4, v5, v6] ++ [v7, v8, v9, v10, v11, v12]))) := Same.new nl3
  have hb2 : BoxAt (upd H12 l2 (.lst [v7, v8, v9, v10, v11, v12])) b := hb.same (((s06.trans sl1).trans s612).trans sl2)
  have s03 := (((s06.trans sl1).trans s612).trans sl2).trans sl3
  have z := z.keep (tups_trans sl2 sl3)
  refine ⟨b, l3, _, rfl, hb2.same sl3, upd_same, Ne.symm (hb2.ne nl3), by show 0 < 12; decide, by show 12 ≤ 1000; decide, fun HA i v hv s14 hbA => ?_⟩
  have sHA : SameBut b H HA := (SameBut.of s03).trans s14
  obtain ⟨ps, hps⟩ : ∃ ps, sizes12[i]? = some ps := by
    have h := (List.getElem?_eq_some_iff.mp hv).1
    have h2 : i < sizes12.length := h
    exact ⟨_, List.getElem?_eq_getElem h2⟩
  have Z : Sz ps := sz_of (List.mem_of_getElem? hps)
  obtain ⟨t, qs, rfl, ht, lq, hq⟩ : SzAt HA v ps := (z.2 i v ps hv hps).keep fun c xs e => s14 _ _ ((hb2.same sl3).tup e) e
  clear hps hv z s14 s03 sl3 nl3 sl2 nl2 hl1 hb2 sl1 nl1 s612 s06 s1 s2 s3 s4 s5 s6 s7 s8 s9 s10 s11 s12
  have hl2' := Z.l2
  have n6 := Z.n6
  -- the states
  refine ⟨by show 0 ≤ sizeLine; decide, fun p0 np0 => ⟨by show 1 ≤ sizeLine; decide, fun l0 nl0 => ?_⟩⟩
  have sB1 : Same HA (upd HA p0 (.tup [])) := Same.new np0
  have sB2 : Same (upd HA p0 (.tup [])) (upd (upd HA p0 (.tup [])) l0 (.lst [.ref p0])) := Same.new nl0
  obtain ⟨HB, eB⟩ : ∃ HB, HB = upd (upd HA p0 (.tup [])) l0 (.lst [.ref p0]) := ⟨_, rfl⟩
  have sAB : Same HA HB := by rw [eB]; exact sB1.trans sB2
  have hl0 : HB l0 = some (.lst ([p0].map V.ref)) := by rw [eB]; exact upd_same
  have hR0 : RowsAt HB [p0] (prodS (ps.take 0)) := ⟨rfl, fun i a r e1 e2 => by
    cases i with
    | zero =>
      cases e1
      cases e2
      rw [eB]
      exact sB2 _ _ upd_same
    | succ i => simp at e1⟩
  rw [← eB]
  clear sB1 sB2 eB nl0 np0
  refine ⟨_, rfl, t, rfl, ⟨_, SqT.of (sAB _ _ ht)⟩, for_it (walk_tup (xs := qs.map V.ref)) (fun i σ H' => ∃ (o4 o5 o6 o7 : Option V) (sl : Addr) (as : List Addr), σ = [some (.ref b), some (.ref l1), some (.ref t), some (.ref sl), o4, o5, o6, o7, none, none, none, none, none, none, none, none, none, none] ∧
      Same HB H' ∧ H' sl = some (.lst (as.map V.ref)) ∧ RowsAt H' as (prodS (ps.take i))) ⟨none, none, none, none, l0, [p0], rfl, Same.refl _, hl0, hR0⟩ (fun i σ H' _ ⟨_, _, _, _, _, _, _, s', _, _⟩ => SqT.of (s' _ _ (sAB _ _ ht))) ?_ ?_⟩
  · rintro i x σ H' H'' hi ⟨o4, o5, o6, o7, sl, as, rfl, s', hsl, hR⟩ ⟨rfl, hx⟩
    rw [List.length_map, lq] at hi
    obtain ⟨p, hp⟩ : ∃ p, ps[i]? = some p := ⟨_, List.getElem?_eq_getElem hi⟩
    obtain ⟨q1, hq1⟩ : ∃ q1, qs[i]? = some q1 := ⟨_, List.getElem?_eq_getElem (by rw [lq]; exact hi)⟩
    obtain rfl : V.ref q1 = x := by
      rw [List.getElem?_map, hq1] at hx
      exact Option.some.inj hx
    obtain ⟨hp1, hp4⟩ := Z.p p (List.mem_of_getElem? hp)
    obtain ⟨hS6, hSx⟩ := Z.pre i (List.mem_range.mpr (by omega))
    refine ⟨q1, _, rfl, SqT.of (s' _ _ (sAB _ _ (hq i q1 p hq1 hp))), rfl, _, _, rfl, _, _, rfl, rfl, ?_⟩
    refine ⟨by show 0 ≤ sizeLine; decide, fun lg nlg => ?_⟩
    refine ⟨_, rfl, sl, rfl, ⟨_, SqL.of ((Same.new nlg) _ _ hsl)⟩, for_it (walk_list (xs := as.map V.ref)) (fun j σ H2 => ∃ (o7 : Option V) (lg : Addr) (bs : List Addr), σ = [some (.ref b), some (.ref l1), some (.ref t), some (.ref sl), some (vi p.1), some (vi p.2), some (.ref lg), o7, none, none, none, none, none, none, none, none, none, none] ∧
      Same H'' H2 ∧ H2 lg = some (.lst (bs.map V.ref)) ∧ RowsAt H2 bs (stepS ((prodS (ps.take i)).take j) p)) ⟨_, lg, [], rfl, Same.new nlg, upd_same, ⟨rfl, fun i a r e => by simp at e⟩⟩ (fun i σ H' _ ⟨_, _, _, _, s2, _, _⟩ => SqL.of (s2 _ _ hsl)) ?_ ?_⟩
    · rintro j x σ H2 H3 hj ⟨o7, lg, bs, rfl, s2, hlg, hR2⟩ ⟨rfl, hx⟩
      rw [List.length_map, hR.1] at hj
      obtain ⟨ap, s, e1, f1, g1⟩ := hR.get hj
      obtain rfl : V.ref ap = x := by
        rw [List.getElem?_map, e1] at hx
        exact Option.some.inj hx
      have hsl2 := hSx s (List.mem_of_getElem? f1)
      have g3 := s2 _ _ g1
      refine ⟨_, rfl, _, rfl, _, rfl, _, _, rfl, rfl, ((p.1 + p.2 : Nat) : Int), by show [V.int ((p.1 : Int) + (p.2 : Int))] = [V.int ((p.1 + p.2 : Nat) : Int)]; rw [Int.natCast_add], by omega, by omega, ?_⟩
      rw [Int.toNat_natCast]
      refine fun D hD => ?_
      refine lc_range (lo := 0) (n := p.1 + p.2) (fun k H4 => ∃ cs, Same H3 H4 ∧ H4 D = some (.lst (cs.map V.ref)) ∧ RowsAt H4 cs ((List.range k).map fun v => s ++ [v])) ⟨[], Same.new hD, upd_same, ⟨rfl, fun i a r e => by simp at e⟩⟩ (fun k H4 hk ⟨cs, s4, hD4, hR4⟩ => ?_) fun H4 ⟨cs, s4, hD4, hR4⟩ => ?_
      · rw [Int.zero_add]
        refine ⟨rfl, yesT (iteT ?_)⟩
        refine ⟨_, rfl, _, rfl, by show 1 ≤ sizeLine; decide, fun tp ntp => ?_⟩
        refine catA_gen (xs := iv s) (ys := iv [k]) ((Same.new ntp) _ _ (s4 _ _ g3)) upd_same (line_of (by rw [List.length_map]; show s.length + 1 ≤ 1000; omega)) fun rr H5 s5 hrr => ?_
        have s45 : Same H4 H5 := (Same.new ntp).trans s5
        refine ⟨_, s45 _ _ hD4, small1000 (by rw [List.length_map, hR4.1, List.length_map, List.length_range]; omega), cs ++ [rr], Same.updN (s4.trans s45) hD, by rw [upd_same, List.map_append] <;> rfl, ?_⟩
        rw [List.range_succ, List.map_append]
        have kk : ∀ c xs, H5 c = some (.tup xs) → upd H5 D (.lst (cs.map V.ref ++ [.ref rr])) c = some (.tup xs) := fun c xs e => (upd_ne (ne_of e (s45 _ _ hD4) (by intro z; cases z))).trans e
        refine ((hR4.same fun c xs e => s45 _ _ e).same kk).snoc (kk _ _ ?_)
        rw [hrr]
        show some (HO.tup (s.map vi ++ [k].map vi)) = some (HO.tup ((s ++ [k]).map vi))
        rw [List.map_append]
      · have hlg4 := s4 _ _ hlg
        have hb6 : bs.length ≤ 100 := by
          rw [hR2.1, stepS_length, List.length_take]
          have : min j (prodS (ps.take i)).length * (p.1 + p.2) ≤ 6 * 4 := Nat.mul_le_mul (by omega) hp4
          omega
        have hc6 : cs.length ≤ 100 := by rw [hR4.1, List.length_map, List.length_range]; omega
        refine ⟨lg, D, _, _, rfl, rfl, hlg4, hD4, line_of (by rw [List.length_map, List.length_map]; omega), fun nl nnl => ?_⟩
        have sn : Same H4 (upd H4 nl (.lst (bs.map V.ref ++ cs.map V.ref))) := Same.new nnl
        refine ⟨_, nl, bs ++ cs, rfl, (s2.trans s4).trans sn, by rw [upd_same, List.map_append], ?_⟩
        rw [stepS_take f1]
        exact (hR2.same fun c xs e => sn _ _ (s4 _ _ e)).app (hR4.same fun c xs e => sn _ _ e)
    · rintro σ H2 ⟨o7, lg, bs, rfl, s2, hlg, hR2⟩
      rw [List.length_map, hR.1, List.take_length] at hR2
      refine ⟨_, rfl, _, _, _, _, lg, bs, rfl, s'.trans s2, hlg, ?_⟩
      rw [prodS_take hp]
      exact hR2
  rintro σ HC ⟨o4, o5, o6, o7, sl, as, rfl, sBC, hsl, hR⟩
  rw [List.length_map, lq, List.take_length] at hR
  have hm2 := Z.n2
  have asl : (as.map V.ref).length = (prodS ps).length := by rw [List.length_map, hR.1]
  have sHC : SameBut b H HC := sHA.trans (.of (sAB.trans sBC))
  have hbC : BoxAt HC b := hbA.same (sAB.trans sBC)
  have htC := (sAB.trans sBC) _ _ ht
  have hqC : ∀ (i : Nat) (q : Addr) (p : Nat × Nat), qs[i]? = some q → ps[i]? = some p → HC q = some (.tup [vi p.1, vi p.2]) := fun i q p e1 e2 => (sAB.trans sBC) _ _ (hq i q p e1 e2)
  have slb : sl ≠ b := by
    obtain ⟨x, y, e, _⟩ := hbC
    intro z
    rw [z, e] at hsl
    injection hsl with hsl
    injection hsl with hsl
    cases as with
    | nil => cases hsl
    | cons a as => injection hsl with h1; cases h1
  clear sAB sBC hq ht sHA hbA hR0 hl0
  -- the names
  refine ⟨by show 0 ≤ sizeLine; decide, fun nl nnl => ?_⟩
  have sn : Same HC (upd HC nl (.lst [])) := Same.new nnl
  refine ⟨_, rfl, sl, _, rfl, .inl (SqL.of (sn _ _ hsl)), _, rfl, RgOk.of_le (by omega) (by rw [asl]; omega) (by decide) (by omega), fun ll nll => ?_⟩
  have nlb : nl ≠ b := Ne.symm (hbC.ne nnl)
  have llb : ll ≠ b := Ne.symm ((hbC.same sn).ne nll)
  have llnl : ll ≠ nl := fun e => by rw [e, upd_same] at nll; cases nll
  have nllC : HC ll = none := none_of sn nll
  rw [asl, rgV0]
  have sn2 : Same (upd HC nl (.lst [])) (upd (upd HC nl (.lst [])) ll (.lst (iv (List.range (prodS ps).length)))) := Same.new nll
  refine ⟨_, _, rfl, ?_⟩
  refine ⟨_, rfl, sl, rfl, ⟨_, SqL.of ((sn.trans sn2) _ _ hsl)⟩, for_it (walk_list (xs := as.map V.ref)) (fun i σ H' => ∃ (o7 : Option V) (nm lf : List Nat), σ = [some (.ref b), some (.ref l1), some (.ref t), some (.ref sl), o4, o5, o6, o7, none, some (.ref nl), some (.ref ll), none, none, none, none, none, none, none] ∧
      SameBut b HC H' ∧ BoxAt H' b ∧ H' nl = some (.lst (iv nm)) ∧ H' ll = some (.lst (iv lf)) ∧ nm.length = i ∧ (nm ++ lf).Perm (List.range (prodS ps).length))
    ⟨o7, [], _, rfl, .of (sn.trans sn2), hbC.same (sn.trans sn2), sn2 _ _ upd_same, upd_same, rfl, List.Perm.refl _⟩ (fun i σ H' _ ⟨_, _, _, _, s', _⟩ => SqL.of (s' _ _ slb hsl)) ?_ ?_⟩
  · rintro i x σ H' H'' hi ⟨o7', nm, lf, rfl, s', hb', hnl, hll, hlen, hpm⟩ ⟨rfl, hx⟩
    have hl2 := hpm.length_eq
    rw [List.length_append, List.length_range] at hl2
    rw [asl] at hi
    refine ⟨_, rfl, .inl ⟨rfl, _, SqL.of hnl⟩, _, rfl, .inl ⟨rfl, _, SqL.of hll⟩, _, rfl, _, rfl, ll, _, rfl, .inl (SqL.of hll), b, (iv lf).length, rfl, hb', by rw [List.length_map]; omega, by rw [List.length_map]; omega, fun H2 r hr2 sb hb2 => ?_⟩
    rw [List.length_map] at hr2
    have hll2 := sb _ _ llb hll
    have hnl2 := sb _ _ nlb hnl
    obtain ⟨y, hy⟩ : ∃ y, lf[r]? = some y := ⟨_, List.getElem?_eq_getElem hr2⟩
    refine ⟨ll, _, _, r, vi y, rfl, rfl, hll2, by omega, by omega, six (by rw [List.length_map]; exact hr2), by rw [List.getElem?_map, hy] <;> rfl, ?_⟩
    refine ⟨nl, _, _, rfl, rfl, (upd_ne (Ne.symm llnl)).trans hnl2, small1000 (by rw [List.length_map]; omega), ?_⟩
    refine ⟨_, nm ++ [y], lf.eraseIdx r, rfl, SameBut.updN (SameBut.updN (s'.trans sb) nllC) nnl, (hb2.upd (Ne.symm llb)).upd (Ne.symm nlb), by rw [upd_same, iv_app] <;> rfl, (upd_ne llnl).trans (by rw [upd_same, iv_erase]), by rw [List.length_append, hlen] <;> rfl, ?_⟩
    rw [List.append_assoc]
    exact ((erase_perm hy).append_left nm).trans hpm
  rintro σ HE ⟨o7', nm, lf, rfl, sCE, hbE, hnl, hll, hlen, hpm⟩
  rw [asl] at hlen
  have hpm : nm.Perm (List.range (prodS ps).length) := by
    have hl2 := hpm.length_eq
    rw [List.length_append, List.length_range, hlen] at hl2
    have : lf = [] := List.eq_nil_of_length_eq_zero (by omega)
    rw [this, List.append_nil] at hpm
    exact hpm
  have nnd : nm.Nodup := hpm.nodup_iff.mpr List.nodup_range
  have nlt : ∀ x ∈ nm, x < nm.length := fun x hx => by rw [hlen]; exact List.mem_range.mp (hpm.mem_iff.mp hx)
  have sHE : SameBut b H HE := sHC.trans sCE
  have hsl := sCE _ _ slb hsl
  have htE := sCE _ _ (hbC.tup htC) htC
  have hqE : ∀ (i : Nat) (q : Addr) (p : Nat × Nat), qs[i]? = some q → ps[i]? = some p → HE q = some (.tup [vi p.1, vi p.2]) := fun i q p e1 e2 => sCE _ _ (hbC.tup (hqC i q p e1 e2)) (hqC i q p e1 e2)
  have hR := hR.same fun c xs e => sCE _ _ (hbC.tup e) e
  clear sHC htC hqC sn sn2 sCE hll
  -- the tables
  refine ⟨by show 0 ≤ sizeLine; decide, fun fl nfl => ?_⟩
  have flb : fl ≠ b := Ne.symm (hbE.ne nfl)
  have hfl0 : upd HE fl (.lst []) fl = some (.lst (([] : List Addr).map V.ref)) := upd_same
  refine ⟨_, rfl, b, 3, rfl, hbE.same (Same.new nfl), by decide, by decide, fun HG r hr3 sG hbG => ?_⟩
  refine ⟨_, _, rfl, rfl, ((1 + r : Nat) : Int), by show [V.int (1 + (r : Int))] = [V.int ((1 + r : Nat) : Int)]; rw [Int.natCast_add] <;> rfl, by omega, by omega, ?_⟩
  rw [Int.toNat_natCast]
  refine for_range (lo := 0) (n := 1 + r) (fun j σ H' => ∃ (o4 o5 o8 o12 o13 o14 o15 o16 o17 : Option V) (fs : List Addr) (T : List (List Nat)), σ = [some (.ref b), some (.ref l1), some (.ref t), some (.ref sl), o4, o5, o6, o7', o8, some (.ref nl), some (.ref ll), some (.ref fl), o12, o13, o14, o15, o16, o17] ∧
      SameBut b HE H' ∧ BoxAt H' b ∧ H' fl = some (.lst (fs.map V.ref)) ∧ RowsAt H' fs T ∧ T.length = j ∧ ∀ r ∈ T, ∃ d ∈ prodS ps, RowOk ps (prodS ps) nm d (prodS ps).length r)
    ⟨o4, o5, none, none, none, none, none, none, none, [], [], rfl, (SameBut.of (Same.new nfl)).trans sG, hbG, sG _ _ flb hfl0, ⟨rfl, fun i a r e => by simp at e⟩, rfl, fun r hr => by cases hr⟩ ?_ ?_
  · rintro j σ H' hj ⟨o4, o5, o8, o12, o13, o14, o15, o16, o17, fs, T, rfl, s', hb', hfl, hRf, hlT, hT⟩
    have ht' := s' _ _ (hbE.tup htE) htE
    have hsl' := s' _ _ slb hsl
    have hnl' := s' _ _ nlb hnl
    have hR' := hR.same fun c xs e => s' _ _ (hbE.tup e) e
    have hq' : ∀ (i : Nat) (q : Addr) (p : Nat × Nat), qs[i]? = some q → ps[i]? = some p → H' q = some (.tup [vi p.1, vi p.2]) := fun i q p e1 e2 => s' _ _ (hbE.tup (hqE i q p e1 e2)) (hqE i q p e1 e2)
    refine ⟨_, rfl, t, rfl, ⟨_, SqT.of ht'⟩, fun D hD => ?_⟩
    have Db : D ≠ b := Ne.symm (hb'.ne hD)
    refine lc_tup (K := K) (a := t) (xs := qs.map V.ref) (fun i H2 => ∃ ext, SameBut b H' H2 ∧ BoxAt H2 b ∧ H2 D = some (.lst (iv ext)) ∧ ext ∈ prodS (ps.take i) ∧ ext.length = i) ⟨[], .of (Same.new hD), hb'.same (Same.new hD), upd_same, List.mem_singleton.mpr rfl, rfl⟩ (fun i H2 _ ⟨_, s2, _⟩ => SqT.of (s2 _ _ (hb'.tup ht') ht')) (fun i x H2 hx ⟨ext, s2, hb2, hD2, hm, hl⟩ => ?_) fun H2 ⟨d, s2, hb2, hD2, hm, hl⟩ => ?_
    · have hi := (List.getElem?_eq_some_iff.mp hx).1
      rw [List.length_map, lq] at hi
      obtain ⟨p, hp⟩ : ∃ p, ps[i]? = some p := ⟨_, List.getElem?_eq_getElem hi⟩
      obtain ⟨q1, hq1⟩ : ∃ q1, qs[i]? = some q1 := ⟨_, List.getElem?_eq_getElem (by rw [lq]; exact hi)⟩
      obtain rfl : V.ref q1 = x := by
        rw [List.getElem?_map, hq1] at hx
        exact Option.some.inj hx
      obtain ⟨hp1, hp4⟩ := Z.p p (List.mem_of_getElem? hp)
      have hqq := hq' i q1 p hq1 hp
      refine ⟨q1, _, rfl, SqT.of (s2 _ _ (hb'.tup hqq) hqq), rfl, _, _, rfl, _, _, rfl, rfl, rfl, yesT (iteT ?_)⟩
      refine ⟨_, rfl, _, rfl, _, rfl, _, _, rfl, rfl, b, p.1 + p.2, by show [V.ref b, V.int ((p.1 : Int) + (p.2 : Int))] = [V.ref b, V.int ((p.1 + p.2 : Nat) : Int)]; rw [Int.natCast_add], hb2, by omega, by omega, fun H3 z hz s3 hb3 => ?_⟩
      have hD3 := s3 _ _ Db hD2
      refine ⟨_, hD3, small1000 (by rw [List.length_map]; omega), ext ++ [z], SameBut.updN (s2.trans s3) hD, hb3.upd (Ne.symm Db), by rw [upd_same, iv_app] <;> rfl, ?_, by rw [List.length_append, hl] <;> rfl⟩
      rw [prodS_take hp]
      exact mem_stepS hm hz
    rw [List.length_map, lq] at hl
    rw [List.length_map, lq, List.take_length] at hm
    have s02 : SameBut b HE H2 := s'.trans s2
    refine ⟨by show 1 ≤ sizeLine; decide, fun zl nzl => ⟨_, rfl, sl, _, rfl, .inl (SqL.of ((Same.new nzl) _ _ (s2 _ _ slb hsl'))), zl, _, _, rfl, rfl, upd_same, by omega, by rw [asl]; omega, by rw [asl]; show 1 * _ ≤ sizeLine; exact line_of (by rw [Int.toNat_natCast]; omega), fun tl ntl => ?_⟩⟩
    rw [asl, Int.toNat_natCast, rep0]
    have nm0 : 0 < nm.length := by omega
    have hbz : BoxAt (upd H2 zl (.lst [.int 0])) b := hb2.same (Same.new nzl)
    have tlb : tl ≠ b := Ne.symm (hbz.ne ntl)
    obtain ⟨HZ, eZ⟩ : ∃ HZ, HZ = upd H2 zl (.lst [.int 0]) := ⟨_, rfl⟩
    rw [← eZ] at ntl hbz ⊢
    have s2Z : Same H2 HZ := by rw [eZ]; exact Same.new nzl
    clear eZ nzl
    have s0Z : SameBut b HE HZ := s02.trans (.of s2Z)
    have sZ' : SameBut b H' HZ := s2.trans (.of s2Z)
    have tlH : H' tl = none := none_ofB sZ' hbz ntl
    have hDZ := s2Z _ _ hD2
    have hfZ := sZ' _ _ flb hfl
    have htZ := sZ' _ _ (hb'.tup ht') ht'
    have hslZ := sZ' _ _ slb hsl'
    have hnlZ := sZ' _ _ nlb hnl'
    have hRZ := hR'.same fun c xs e => sZ' _ _ (hb'.tup e) e
    have hqZ : ∀ (i : Nat) (q : Addr) (p : Nat × Nat), qs[i]? = some q → ps[i]? = some p → HZ q = some (.tup [vi p.1, vi p.2]) := fun i q p e1 e2 => sZ' _ _ (hb'.tup (hq' i q p e1 e2)) (hq' i q p e1 e2)
    have hRfZ := hRf.same fun c xs e => sZ' _ _ (hb'.tup e) e
    refine ⟨_, _, rfl, ?_⟩
    have sT0 : Same HZ (upd HZ tl (.lst (iv (List.replicate (prodS ps).length 0)))) := Same.new ntl
    refine ⟨_, rfl, sl, _, rfl, .inl (SqL.of (sT0 _ _ hslZ)), _, rfl, by rw [asl]; omega, by rw [asl]; omega, ?_⟩
    rw [asl, Int.toNat_natCast]
    refine for_range (lo := 0) (n := (prodS ps).length) (fun k σ H4 => ∃ (o4 o5 o8 o15 o16 o17 : Option V) (row : List Nat), σ = [some (.ref b), some (.ref l1), some (.ref t), some (.ref sl), o4, o5, o6, o7', o8, some (.ref nl), some (.ref ll), some (.ref fl), some (.int (0 + (j : Int))), some (.ref D), some (.ref tl), o15, o16, o17] ∧
        Same HZ H4 ∧ H4 tl = some (.lst (iv row)) ∧ RowOk ps (prodS ps) nm d k row) ⟨o4, o5, o8, o15, o16, o17, _, rfl, sT0, upd_same, by rw [← hlen]; exact RowOk.zero nm0⟩ ?_ ?_
    · rintro k σ H4 hk ⟨o4, o5, o8, o15, o16, o17, row, rfl, s4, htl, hrow⟩
      obtain ⟨sa, s, e1, f1, g1⟩ := hRZ.get hk
      have hsm := List.mem_of_getElem? f1
      have hsl3 := Z.len s hsm
      have hal := addS_length (d := d) hsl3 hl
      obtain ⟨nk, hnk⟩ : ∃ nk, nm[k]? = some nk := ⟨_, List.getElem?_eq_getElem (by omega)⟩
      refine ⟨by show 0 ≤ sizeLine; decide, fun xl nxl => ?_⟩
      have sx : Same H4 (upd H4 xl (.lst [])) := Same.new nxl
      have eqs : (qs.map V.ref).length = ps.length := by rw [List.length_map, lq]
      refine ⟨_, rfl, t, _, rfl, .inr (SqT.of (sx _ _ (s4 _ _ htZ))), _, rfl, by rw [eqs]; omega, by rw [eqs]; omega, ?_⟩
      rw [eqs, Int.toNat_natCast]
      refine for_range (lo := 0) (n := ps.length) (fun l σ H5 => ∃ (o4 o5 o8 o17 : Option V), σ = [some (.ref b), some (.ref l1), some (.ref t), some (.ref sl), o4, o5, o6, o7', o8, some (.ref nl), some (.ref ll), some (.ref fl), some (.int (0 + (j : Int))), some (.ref D), some (.ref tl), some (.int (0 + (k : Int))), some (.ref xl), o17] ∧
          Same H4 H5 ∧ H5 xl = some (.lst (iv ((addS ps s d).take l)))) ⟨o4, o5, o8, o17, rfl, sx, upd_same⟩ ?_ ?_
      · rintro l σ H5 hl5 ⟨o4, o5, o8, o17, rfl, s5, hxl⟩
        obtain ⟨p, hp⟩ : ∃ p, ps[l]? = some p := ⟨_, List.getElem?_eq_getElem hl5⟩
        obtain ⟨q1, hq1⟩ : ∃ q1, qs[l]? = some q1 := ⟨_, List.getElem?_eq_getElem (by rw [lq]; exact hl5)⟩
        obtain ⟨x, hx⟩ : ∃ x, s[l]? = some x := ⟨_, List.getElem?_eq_getElem (by omega)⟩
        obtain ⟨y, hy⟩ : ∃ y, d[l]? = some y := ⟨_, List.getElem?_eq_getElem (by omega)⟩
        obtain ⟨hp1, hp4⟩ := Z.p p (List.mem_of_getElem? hp)
        have s45 : Same HZ H5 := s4.trans s5
        refine ⟨_, rfl, _, rfl, t, _, _, _, rfl, rfl, SqT.of (s45 _ _ htZ), at_of (j := l) (v := .ref q1) (by omega) (by rw [List.getElem?_map, hq1] <;> rfl), q1, _, rfl, SqT.of (s45 _ _ (hqZ l q1 p hq1 hp)), rfl, _, _, rfl, _, _, rfl, rfl, ?_⟩
        refine ⟨_, rfl, _, rfl, sl, _, _, _, rfl, rfl, SqL.of (s45 _ _ hslZ), at_of (j := k) (v := .ref sa) (by omega) (by rw [List.getElem?_map, e1] <;> rfl), _, rfl, sa, _, _, _, rfl, rfl, SqT.of (s45 _ _ g1), at_of (j := l) (v := vi x) (by omega) (by rw [List.getElem?_map, hx] <;> rfl), _, rfl, _, rfl, D, _, _, _, rfl, rfl, SqL.of (s45 _ _ hDZ), at_of (j := l) (v := vi y) (by omega) (by rw [List.getElem?_map, hy] <;> rfl), _, _, rfl, rfl, ?_⟩
        refine ⟨_, rfl, .inl ⟨rfl, _, SqL.of hxl⟩, _, rfl, _, rfl, _, _, rfl, rfl, _, rfl, ?_⟩
        have fin : ∀ v, v = vi (nrm p (x + y)) → ∃ xs, H5 xl = some (.lst xs) ∧ xs = iv ((addS ps s d).take l) ∧ xs ++ [v] = iv ((addS ps s d).take (l + 1)) := fun v e => ⟨_, hxl, rfl, by
          rw [e, List.take_add_one, addS_get hp hx hy, iv_app] <;> rfl⟩
        by_cases hlt : x + y < p.1
        · refine iteD (by omega) ?_
          refine ⟨_, rfl, xl, _, _, rfl, rfl, hxl, small1000 (by rw [List.length_map, List.length_take]; omega), _, _, _, _, rfl, Same.updN s5 nxl, ?_⟩
          obtain ⟨xs, h1, h2, h3⟩ := fin (.int ((x : Int) + (y : Int))) (by unfold nrm; rw [if_pos hlt]; show V.int ((x : Int) + (y : Int)) = V.int ((x + y : Nat) : Int); rw [Int.natCast_add])
          rw [upd_same, ← h3, h2]
        · refine iteDn (by omega) ?_
          refine ⟨_, rfl, _, rfl, _, rfl, _, _, rfl, rfl, .inl ⟨_, rfl, _, rfl, _, _, rfl, rfl, by omega, _, _, rfl, rfl, xl, _, _, rfl, rfl, hxl, small1000 (by rw [List.length_map, List.length_take]; omega), _, _, _, _, rfl, Same.updN s5 nxl, ?_⟩⟩
          obtain ⟨xs, h1, h2, h3⟩ := fin _ (nrm_ge hp1 hlt)
          rw [upd_same, ← h3, h2]
      rintro σ H5 ⟨o4, o5, o8, o17, rfl, s5, hxl⟩
      rw [List.take_of_length_le (by omega)] at hxl
      obtain ⟨i1, hi1, hno⟩ := first_at (Z.cl s hsm d hm)
      obtain ⟨x1, hx1⟩ : ∃ x1, nm[i1]? = some x1 := ⟨_, List.getElem?_eq_getElem (by have := (List.getElem?_eq_some_iff.mp hi1).1; omega)⟩
      have s45 : Same HZ H5 := s4.trans s5
      refine ⟨_, rfl, _, rfl, .inl ⟨rfl, _, SqL.of (s45 _ _ hslZ)⟩, _, rfl, xl, _, rfl, .inl ⟨SqL.of hxl, fun tp ntp => ?_⟩⟩
      have s56 : Same H5 (upd H5 tp (.tup (iv (addS ps s d)))) := Same.new ntp
      have s6 := s45.trans s56
      refine ⟨sl, .ref tp, dRow (addS ps s d), (prodS ps).map dRow, i1, dRow (addS ps s d), rfl, rfl, .lst (SqL.of (s6 _ _ hslZ)) (dp_rows (hRZ.same fun c xs e => s6 _ _ e)), .tup (SqT.of upd_same) (dp_iv _), sh_rows _, sh_row _, by rw [List.getElem?_map, hi1] <;> rfl, SeqAt.eqv_refl _ (cl_row _), fun m z' hm1 hz' => ?_, ?_⟩
      · rw [List.getElem?_map] at hz'
        cases e : (prodS ps)[m]? with
        | none => rw [e] at hz'; cases hz'
        | some z0 =>
          rw [e] at hz'
          obtain rfl : dRow z0 = z' := Option.some.inj hz'
          exact eqv_row (hno m z0 hm1 e)
      refine ⟨nl, _, _, _, rfl, rfl, SqL.of (s6 _ _ hnlZ), at_of (j := i1) (v := vi x1) rfl (by rw [List.getElem?_map, hx1] <;> rfl), ?_⟩
      have htl6 := (s5.trans s56) _ _ htl
      refine ⟨_, rfl, _, rfl, _, rfl, nl, _, _, _, rfl, rfl, SqL.of (s6 _ _ hnlZ), at_of (j := k) (v := vi nk) (by omega) (by rw [List.getElem?_map, hnk] <;> rfl), tl, _, _, nk, rfl, rfl, htl6, ixN_k (by rw [List.length_map, hrow.len]; exact nlt nk (List.mem_of_getElem? hnk)), ?_⟩
      refine ⟨_, _, _, _, _, _, row.set nk x1, rfl, Same.updN s6 ntl, by rw [upd_same, iv_set], hrow.step nnd nlt f1 hnk hi1 hx1⟩
    rintro σ H4 ⟨o4, o5, o8, o15, o16, o17, row, rfl, s4, htl, hrow⟩
    have hf4 := s4 _ _ hfZ
    refine ⟨_, rfl, .inl ⟨rfl, _, SqL.of hf4⟩, _, rfl, tl, _, rfl, .inl ⟨SqL.of htl, fun rp nrp => ?_⟩⟩
    have s5 : Same H4 (upd H4 rp (.tup (iv row))) := Same.new nrp
    have sZ5 := s4.trans s5
    have hf5 := s5 _ _ hf4
    refine ⟨fl, _, _, rfl, rfl, hf5, small1000 (by rw [List.length_map, hRf.1]; omega), ?_⟩
    have kk : ∀ c xs, upd H4 rp (.tup (iv row)) c = some (.tup xs) → upd (upd H4 rp (.tup (iv row))) fl (.lst (fs.map V.ref ++ [.ref rp])) c = some (.tup xs) := fun c xs e => (upd_ne (ne_of e hf5 (by intro z; cases z))).trans e
    refine ⟨_, _, _, _, _, _, _, _, _, fs ++ [rp], T ++ [row], rfl, SameBut.updN (s0Z.trans (.of sZ5)) nfl, ((hbz.same sZ5).upd (Ne.symm flb)), by rw [upd_same, List.map_append] <;> rfl, ((hRfZ.same fun c xs e => sZ5 _ _ e).same kk).snoc (kk _ _ upd_same), by rw [List.length_append, hlT] <;> rfl, fun r hr => ?_⟩
    rcases List.mem_append.mp hr with h | h
    · exact hT r h
    · rw [List.mem_singleton.mp h]
      exact ⟨d, hm, hrow⟩
  rintro σ HK ⟨o4, o5, o8, o12, o13, o14, o15, o16, o17, fs, T, rfl, s', hb', hfl, hRf, hlT, hT⟩
  refine ⟨_, rfl, q HK fl fs T (prodS ps).length (sHE.trans s') hb' (none_ofB sHE hbE nfl) hfl hRf ⟨by omega, by omega, by omega, by omega, fun r hr => ?_, fun r hr x hx => ?_⟩ fun d e s hd he hs => ⟨?_, rows_commute Z hpm hT hd he hs⟩⟩
  · obtain ⟨d, _, h⟩ := hT r hr
    rw [h.len, hlen]
  · obtain ⟨d, _, h⟩ := hT r hr
    rw [← hlen]
    exact h.lt x hx
  · obtain ⟨d1, _, h⟩ := hT T[d] (List.getElem_mem _)
    have g : (T[d])[s]? = some ((T[d])[s]'(by rw [h.len, hlen]; exact hs)) := List.getElem?_eq_getElem _
    rw [stp_of (List.getElem?_eq_getElem hd) g]
    exact Nat.lt_of_lt_of_le (h.lt _ (List.getElem_mem _)) (by omega)
end
end K35
set_option maxHeartbeats 4000000
/-! Plain: deeds that commute below m; what both sides have heard. -/
namespace K35
structure Cm (T : List (List Nat)) (m : Nat) : Prop where
  st : ∀ d s, d < T.length → s < m → stp T d s < m
  co : ∀ d e s, d < T.length → e < T.length → s < m → stp T d (stp T e s) = stp T e (stp T d s)
def Dl (T : List (List Nat)) (u : List Nat) : Prop := ∀ d ∈ u, d < T.length
theorem Dl.tail {T : List (List Nat)} {d : Nat} {u : List Nat} (h : Dl T (d :: u)) : Dl T u := fun e he => h e (List.mem_cons_of_mem _ he)
theorem Dl.head {T : List (List Nat)} {d : Nat} {u : List Nat} (h : Dl T (d :: u)) : d < T.length := h d (List.mem_cons_self ..)
theorem Dl.app {T : List (List Nat)} {u v : List Nat} (h : Dl T u) (k : Dl T v) : Dl T (u ++ v) := fun e he => (List.mem_append.mp he).elim (h e) (k e)
section
variable {T : List (List Nat)} {m : Nat}
theorem Cm.run_lt (h : Cm T m) {u : List Nat} {s : Nat} (hu : Dl T u) (hs : s < m) : run T u s < m := (show Closed T (fun x => x < m) from fun s hs d hd => h.st d s hd hs).run hs hu
theorem Cm.step_run (h : Cm T m) {d : Nat} (hd : d < T.length) : ∀ {u : List Nat} {s : Nat}, Dl T u → s < m → stp T d (run T u s) = run T u (stp T d s)
  | [], _, _, _ => rfl
  | e :: u, s, hu, hs => by
    rw [run_cons, run_cons, Cm.step_run h hd hu.tail (h.st e s hu.head hs), h.co d e s hd hu.head hs]
theorem Cm.run_run (h : Cm T m) : ∀ {u v : List Nat} {s : Nat}, Dl T u → Dl T v → s < m → run T u (run T v s) = run T v (run T u s)
  | [], _, _, _, _, _ => rfl
  | e :: u, v, s, hu, hv, hs => by
    rw [run_cons, run_cons, Cm.step_run h hu.head hv hs, Cm.run_run h hu.tail hv (h.st e s hu.head hs)]
theorem Cm.perm (h : Cm T m) {u v : List Nat} (p : u.Perm v) : ∀ {s : Nat}, Dl T u → s < m → run T u s = run T v s := by
  induction p with
  | nil => intro s _ _; rfl
  | cons x _ ih =>
    intro s hu hs
    rw [run_cons, run_cons, ih hu.tail (h.st x s hu.head hs)]
  | swap x y l =>
    intro s hu hs
    rw [run_cons, run_cons, run_cons, run_cons, h.co x y s hu.tail.head hu.head hs]
  | trans p q ih1 ih2 =>
    intro s hu hs
    rw [ih1 hu hs, ih2 (fun d hd => hu d (p.mem_iff.mpr hd)) hs]
/-- the deeds, the names of what was heard -/
def dss (h : List (Nat × Nat)) : List Nat := h.map Prod.snd
def nss (h : List (Nat × Nat)) : List Nat := h.map Prod.fst
theorem dss_app (a b : List (Nat × Nat)) : dss (a ++ b) = dss a ++ dss b := List.map_append
theorem nss_app (a b : List (Nat × Nat)) : nss (a ++ b) = nss a ++ nss b := List.map_append
/-- B: what both have heard; X0, X1: what one alone has -/
structure HB (T : List (List Nat)) (k : Nat) (B X0 X1 h0 h1 : List (Nat × Nat)) : Prop where
  p0 : h0.Perm (B ++ X0)
  p1 : h1.Perm (B ++ X1)
  nd : (nss (B ++ X0 ++ X1)).Nodup
  lk : ∀ p ∈ B ++ X0 ++ X1, p.1 < k
  dl : ∀ p ∈ B ++ X0 ++ X1, p.2 < T.length
def both (h0 h1 : List (Nat × Nat)) : List (Nat × Nat) := h0 ++ h1.filter fun p => decide (p.1 ∉ nss h0)
section
variable {k : Nat} {B X0 X1 h0 h1 : List (Nat × Nat)}
theorem HB.dl0 (h : HB T k B X0 X1 h0 h1) : Dl T (dss X0) := fun d hd => by
  obtain ⟨p, hp, rfl⟩ := List.mem_map.mp hd
  exact h.dl p (by simp [hp])
theorem HB.dl1 (h : HB T k B X0 X1 h0 h1) : Dl T (dss X1) := fun d hd => by
  obtain ⟨p, hp, rfl⟩ := List.mem_map.mp hd
  exact h.dl p (by simp [hp])
theorem HB.dlB (h : HB T k B X0 X1 h0 h1) : Dl T (dss B) := fun d hd => by
  obtain ⟨p, hp, rfl⟩ := List.mem_map.mp hd
  exact h.dl p (by simp [hp])
theorem HB.swap (h : HB T k B X0 X1 h0 h1) : HB T k B X1 X0 h1 h0 := by
  have p : (B ++ X0 ++ X1).Perm (B ++ X1 ++ X0) := by
    rw [List.append_assoc, List.append_assoc]
    exact List.perm_append_comm.append_left B
  exact ⟨h.p1, h.p0, (p.map Prod.fst).nodup_iff.mp h.nd, fun q hq => h.lk q (p.mem_iff.mpr hq), fun q hq => h.dl q (p.mem_iff.mpr hq)⟩
theorem HB.up (h : HB T k B X0 X1 h0 h1) {k' : Nat} (e : k ≤ k') : HB T k' B X0 X1 h0 h1 := ⟨h.p0, h.p1, h.nd, fun q hq => Nat.lt_of_lt_of_le (h.lk q hq) e, h.dl⟩
/-- a name tells the deed -/
theorem HB.same (h : HB T k B X0 X1 h0 h1) {p q : Nat × Nat} (hp : p ∈ B ++ X0 ++ X1) (hq : q ∈ B ++ X0 ++ X1) (e : p.1 = q.1) : p = q := by
  obtain ⟨i, hi⟩ := List.mem_iff_getElem?.mp hp
  obtain ⟨j, hj⟩ := List.mem_iff_getElem?.mp hq
  have hi2 : (nss (B ++ X0 ++ X1))[i]? = some p.1 := by
    unfold nss
    rw [List.getElem?_map, hi] <;> rfl
  have hj2 : (nss (B ++ X0 ++ X1))[j]? = some q.1 := by
    unfold nss
    rw [List.getElem?_map, hj] <;> rfl
  have ij : i = j := (List.getElem?_inj (List.getElem?_eq_some_iff.mp hi2).1 h.nd).mp (by rw [hi2, hj2, e])
  rw [ij, hj] at hi
  exact (Option.some.inj hi).symm
theorem HB.both (h : HB T k B X0 X1 h0 h1) : (both h0 h1).Perm (B ++ X0 ++ X1) := by
  unfold K35.both
  refine h.p0.append ?_
  have f1 := h.p1.filter fun p => decide (p.1 ∉ nss h0)
  rw [List.filter_append] at f1
  have eB : B.filter (fun p => decide (p.1 ∉ nss h0)) = [] := List.filter_eq_nil_iff.mpr fun p hp => by
    have : p.1 ∈ nss h0 := List.mem_map.mpr ⟨p, h.p0.mem_iff.mpr (List.mem_append_left _ hp), rfl⟩
    simp [this]
  have eX : X1.filter (fun p => decide (p.1 ∉ nss h0)) = X1 := List.filter_eq_self.mpr fun p hp => decide_eq_true fun z => by
    obtain ⟨q, hq, e⟩ := List.mem_map.mp z
    have hq2 : q.1 ∈ nss (B ++ X0) := List.mem_map.mpr ⟨q, h.p0.mem_iff.mp hq, rfl⟩
    have nd := h.nd
    rw [nss_app] at nd
    exact (List.nodup_append.mp nd).2.2 q.1 hq2 p.1 (List.mem_map.mpr ⟨p, hp, rfl⟩) e
  rw [eB, eX, List.nil_append] at f1
  exact f1
/-- one more deed, at side 0 -/
theorem HB.add0 (h : HB T k B X0 X1 h0 h1) {d : Nat} (hd : d < T.length) : HB T (k + 1) B (X0 ++ [(k, d)]) X1 (h0 ++ [(k, d)]) h1 := by
  have p : (B ++ (X0 ++ [(k, d)]) ++ X1).Perm ((B ++ X0 ++ X1) ++ [(k, d)]) := by
    rw [← List.append_assoc, List.append_assoc, List.append_assoc (B ++ X0) X1]
    exact List.perm_append_comm.append_left (B ++ X0)
  have mem : ∀ q, q ∈ B ++ (X0 ++ [(k, d)]) ++ X1 → q ∈ B ++ X0 ++ X1 ∨ q = (k, d) := fun q hq => by
    rcases List.mem_append.mp (p.mem_iff.mp hq) with z | z
    · exact .inl z
    · exact .inr (List.mem_singleton.mp z)
  refine ⟨by rw [← List.append_assoc]; exact h.p0.append_right _, h.p1, ?_, fun q hq => ?_, fun q hq => ?_⟩
  · refine (p.map Prod.fst).nodup_iff.mpr ?_
    rw [List.map_append]
    refine List.nodup_append.mpr ⟨h.nd, List.pairwise_singleton _ _, fun a ha b hb e => ?_⟩
    obtain ⟨q, hq, rfl⟩ := List.mem_map.mp ha
    have := h.lk q hq
    rw [List.mem_singleton.mp hb] at e
    have e : q.1 = k := e
    omega
  · rcases mem q hq with z | z
    · have := h.lk q z
      omega
    · rw [z]
      exact Nat.lt_succ_self k
  · rcases mem q hq with z | z
    · exact h.dl q z
    · rw [z]
      exact hd
theorem HB.add1 (h : HB T k B X0 X1 h0 h1) {d : Nat} (hd : d < T.length) : HB T (k + 1) B X0 (X1 ++ [(k, d)]) h0 (h1 ++ [(k, d)]) := (h.swap.add0 hd).swap
/-- behind a whole meeting -/
theorem HB.whole (h : HB T k B X0 X1 h0 h1) : HB T k (K35.both h0 h1) [] [] (K35.both h0 h1) (K35.both h0 h1) := by
  have p := h.both
  refine ⟨by rw [List.append_nil], by rw [List.append_nil], ?_, fun q hq => ?_, fun q hq => ?_⟩
  · rw [List.append_nil, List.append_nil]
    exact (p.map Prod.fst).nodup_iff.mpr h.nd
  · rw [List.append_nil, List.append_nil] at hq
    exact h.lk q (p.mem_iff.mp hq)
  · rw [List.append_nil, List.append_nil] at hq
    exact h.dl q (p.mem_iff.mp hq)
/-- behind a meeting that side 0 alone heard -/
theorem HB.half0 (h : HB T k B X0 X1 h0 h1) : HB T k h1 X0 [] (K35.both h0 h1) h1 := by
  have q : (B ++ X0 ++ X1).Perm (h1 ++ X0) := by
    refine List.Perm.trans ?_ (h.p1.symm.append_right X0)
    rw [List.append_assoc, List.append_assoc]
    exact List.perm_append_comm.append_left B
  have p := h.both.trans q
  refine ⟨p, by rw [List.append_nil], ?_, fun r hr => ?_, fun r hr => ?_⟩
  · rw [List.append_nil]
    exact (q.map Prod.fst).nodup_iff.mp h.nd
  · rw [List.append_nil] at hr
    exact h.lk r (q.mem_iff.mpr hr)
  · rw [List.append_nil] at hr
    exact h.dl r (q.mem_iff.mpr hr)
theorem HB.half1 (h : HB T k B X0 X1 h0 h1) : HB T k h0 [] X1 h0 (K35.both h0 h1) := by
  have q := h.both
  have p : (B ++ X0 ++ X1).Perm (h0 ++ X1) := h.p0.symm.append_right X1
  refine ⟨by rw [List.append_nil], q.trans p, ?_, fun r hr => ?_, fun r hr => ?_⟩
  · rw [List.append_nil]
    exact (p.map Prod.fst).nodup_iff.mp h.nd
  · rw [List.append_nil] at hr
    exact h.lk r (p.mem_iff.mpr hr)
  · rw [List.append_nil] at hr
    exact h.dl r (p.mem_iff.mpr hr)
theorem HB.ok0 (h : HB T k B X0 X1 h0 h1) : (nss h0).Nodup ∧ h0.length ≤ k ∧ Dl T (dss h0) ∧ ∀ p ∈ h0, p.1 < k := by
  have nd := h.nd
  rw [nss_app] at nd
  have nd0 : (nss h0).Nodup := (h.p0.map Prod.fst).nodup_iff.mpr (List.nodup_append.mp nd).1
  have lk : ∀ p ∈ h0, p.1 < k := fun p hp => h.lk p (List.mem_append_left _ (h.p0.mem_iff.mp hp))
  refine ⟨nd0, ?_, fun d hd => ?_, lk⟩
  · have := nodup_le k (nss h0) nd0 fun x hx => by
      obtain ⟨p, hp, rfl⟩ := List.mem_map.mp hx
      exact lk p hp
    unfold nss at this
    rw [List.length_map] at this
    exact this
  · obtain ⟨p, hp, rfl⟩ := List.mem_map.mp hd
    exact h.dl p (List.mem_append_left _ (h.p0.mem_iff.mp hp))
theorem HB.ok1 (h : HB T k B X0 X1 h0 h1) : (nss h1).Nodup ∧ h1.length ≤ k ∧ Dl T (dss h1) ∧ ∀ p ∈ h1, p.1 < k := h.swap.ok0
/-- THE JOIN: from the base b, where both sides are -/
theorem HB.joins (h : HB T k B X0 X1 h0 h1) (C : Cm T m) {f : Nat} (hf : f < m) :
    run T (dss X1) (run T (dss B) f) = run T (dss h1) f ∧ (∀ u, Dl T u → run T u (run T (dss B) f) = run T (dss h1) f → run T u (run T (dss h0) f) = run T (dss (K35.both h0 h1)) f) := by
  have e0 : run T (dss h0) f = run T (dss X0) (run T (dss B) f) := by
    refine (C.perm (h.p0.map Prod.snd) h.ok0.2.2.1 hf).trans ?_
    rw [List.map_append]
    exact run_append T (dss B) (dss X0) f
  have e1 : run T (dss h1) f = run T (dss X1) (run T (dss B) f) := by
    refine (C.perm (h.p1.map Prod.snd) h.ok1.2.2.1 hf).trans ?_
    rw [List.map_append]
    exact run_append T (dss B) (dss X1) f
  have hB := C.run_lt h.dlB hf
  have dU : Dl T (dss (K35.both h0 h1)) := fun d hd => by
    obtain ⟨p, hp, rfl⟩ := List.mem_map.mp hd
    exact h.dl p (h.both.mem_iff.mp hp)
  refine ⟨e1.symm, fun u hu eu => ?_⟩
  rw [e0, C.run_run hu h.dl0 hB, eu, e1]
  refine Eq.trans ?_ (C.perm (h.both.map Prod.snd) dU hf).symm
  rw [List.map_append, List.map_append]
  show run T (dss X0) (run T (dss X1) (run T (dss B) f)) = run T (dss B ++ dss X0 ++ dss X1) f
  rw [run_append, run_append, C.run_run h.dl0 h.dl1 hB]
end
end
end K35
set_option maxHeartbeats 4000000
/-! The plain law of the twin: what stays true at every moment. -/
namespace K35
open PySem PySem.Spec PyProof.Rows L2
theorem putK_same {kvs : List (Key × V)} {k : Key} {v : V} (hk : k ∈ kvs.map Prod.fst) (h : ∀ q ∈ kvs, q.1 = k → q.2 = v) : putK kvs k v = kvs := by
  unfold putK
  have ha : (kvs.any fun kv => decide (kv.1 = k)) = true := by
    obtain ⟨q, hq, e⟩ := List.mem_map.mp hk
    exact List.any_eq_true.mpr ⟨q, hq, decide_eq_true e⟩
  rw [if_pos ha]
  conv => rhs; rw [← List.map_id kvs]
  refine List.map_congr_left fun q hq => ?_
  by_cases e : q.1 = k
  · rw [if_pos e, ← h q hq e] <;> rfl
  · rw [if_neg e] <;> rfl
theorem merge_both : ∀ {h1 acc : Hd}, (nss h1).Nodup → (∀ p ∈ h1, ∀ q ∈ acc, q.1 = p.1 → q = p) → mergeK (kH acc) (kH h1) = kH (both acc h1)
  | [], acc, _, _ => by
    unfold both
    rw [List.filter_nil, List.append_nil] <;> rfl
  | p :: h1, acc, nd, ag => by
    have nd2 := List.nodup_cons.mp (show (p.1 :: nss h1).Nodup from nd)
    have e0 : mergeK (kH acc) (kH (p :: h1)) = mergeK (putK (kH acc) (kx p.1) (vi p.2)) (kH h1) := rfl
    rw [e0]
    by_cases hp : p.1 ∈ nss acc
    · have e1 : putK (kH acc) (kx p.1) (vi p.2) = kH acc := by
        refine putK_same ?_ fun q hq e => ?_
        · obtain ⟨r, hr, e⟩ := List.mem_map.mp hp
          exact List.mem_map.mpr ⟨(kx r.1, vi r.2), List.mem_map.mpr ⟨r, hr, rfl⟩, by show kx r.1 = kx p.1; rw [e]⟩
        · obtain ⟨r, hr, rfl⟩ := List.mem_map.mp hq
          rw [ag p (List.mem_cons_self ..) r hr (kx_inj e)]
      rw [e1, merge_both nd2.2 fun q hq r hr => ag q (List.mem_cons_of_mem _ hq) r hr]
      unfold both
      rw [List.filter_cons, if_neg (by simpa using hp)]
    · have e1 : putK (kH acc) (kx p.1) (vi p.2) = kH (acc ++ [p]) := by
        rw [putK_new _ (valH_none hp), kH_snoc]
      rw [e1, merge_both nd2.2 fun q hq r hr e => ?_]
      · unfold both
        rw [List.filter_cons, if_pos (decide_eq_true hp), List.append_assoc, List.singleton_append]
        have e2 : h1.filter (fun q => decide (q.1 ∉ nss (acc ++ [p]))) = h1.filter (fun q => decide (q.1 ∉ nss acc)) := List.filter_congr fun q hq => by
          have hne : q.1 ≠ p.1 := fun e => nd2.1 (by rw [← e]; exact List.mem_map.mpr ⟨q, hq, rfl⟩)
          have : q.1 ∈ nss (acc ++ [p]) ↔ q.1 ∈ nss acc := by
            rw [nss_app, List.mem_append]
            exact ⟨fun z => z.elim id fun z => absurd (List.mem_singleton.mp z) hne, .inl⟩
          exact decide_eq_decide.mpr (not_congr this)
        rw [e2]
      · rcases List.mem_append.mp hr with z | z
        · exact ag q (List.mem_cons_of_mem _ hq) r z e
        · rw [List.mem_singleton.mp z] at e
          exact absurd (List.mem_map.mpr ⟨q, hq, e.symm⟩) nd2.1
theorem HB.merge {T : List (List Nat)} {k : Nat} {B X0 X1 h0 h1 : Hd} (h : HB T k B X0 X1 h0 h1) : mergeK (kH h0) (kH h1) = kH (K35.both h0 h1) :=
  merge_both h.ok1.1 fun p hp q hq e => h.same (List.mem_append_left _ (h.p0.mem_iff.mp hq)) (by
    rcases List.mem_append.mp (h.p1.mem_iff.mp hp) with z | z
    · exact List.mem_append_left _ (List.mem_append_left _ z)
    · exact List.mem_append_right _ z) e
/-! ### the marks -/
theorem gap0 (nu x : Nat) : gapI nu x x = 0 := by
  unfold gapI
  rw [Int.sub_self]
  exact Int.zero_fmod _
theorem gap1 : ∀ nu : Nat, nu = 2 ∨ nu = 3 → ∀ x, x < nu → gapI nu ((x + 1) % nu) x = 1 := by
  intro nu h x hx
  rcases h with rfl | rfl
  · have : x = 0 ∨ x = 1 := by omega
    rcases this with rfl | rfl <;> decide
  · have : x = 0 ∨ x = 1 ∨ x = 2 := by omega
    rcases this with rfl | rfl | rfl <;> decide
theorem gap2 : ∀ x, x < 3 → gapI 3 x ((x + 1) % 3) = 2 := by
  intro x hx
  have : x = 0 ∨ x = 1 ∨ x = 2 := by omega
  rcases this with rfl | rfl | rfl <;> decide
theorem vi_inj {x y : Nat} (h : vi x = vi y) : x = y := by
  injection h with h
  omega
/-- behind a meeting that side a alone heard: the base is what the other side has -/
theorem base_half {nu a z : Nat} {s : Tw} (hn : nu = 2 ∨ nu = 3) (ha : a ≤ 1) (hs : a = 0 ∨ nu = 3) (h0 : s.m0 < nu) (h1 : s.m1 < nu) : baseV nu (meetS nu s a false z) = if a = 0 then vi s.s1 else vi s.s0 := by
  have em0 : (meetS nu s a false z).m0 = mk0 nu s a := by simp [meetS]
  have em1 : (meetS nu s a false z).m1 = mk1 nu s a := by simp [meetS]
  unfold baseV
  rw [em0, em1]
  rcases Nat.le_one_iff_eq_zero_or_eq_one.mp ha with rfl | rfl
  · have g : gapI nu (mk0 nu s 0) (mk1 nu s 0) = 1 := by
      unfold mk0 mk1
      by_cases hv : aheadV nu s.m0 s.m1 = vi 0
      · rw [if_pos hv, if_pos hv]
        unfold aheadV at hv
        by_cases g0 : gapI nu s.m0 s.m1 = 0
        · rw [if_pos g0] at hv
          cases hv
        · rw [if_neg g0] at hv
          by_cases g1 : gapI nu s.m0 s.m1 = 1
          · exact g1
          · rw [if_neg g1] at hv
            cases hv
      · rw [if_neg hv, if_neg hv, if_pos rfl, if_pos rfl]
        exact gap1 nu hn _ h1
    rw [if_neg (by rw [g]; decide), if_pos g, if_pos rfl]
    simp [meetS]
  · have e3 : nu = 3 := by omega
    subst e3
    have g : gapI 3 (mk0 3 s 1) (mk1 3 s 1) ≠ 0 ∧ gapI 3 (mk0 3 s 1) (mk1 3 s 1) ≠ 1 := by
      unfold mk0 mk1
      by_cases hv : aheadV 3 s.m0 s.m1 = vi 1
      · rw [if_pos hv, if_pos hv]
        unfold aheadV at hv
        by_cases g0 : gapI 3 s.m0 s.m1 = 0
        · rw [if_pos g0] at hv
          cases hv
        · rw [if_neg g0] at hv
          by_cases g1 : gapI 3 s.m0 s.m1 = 1
          · rw [if_pos g1] at hv
            cases hv
          · exact ⟨g0, g1⟩
      · rw [if_neg hv, if_neg hv, if_neg (by decide), if_neg (by decide), gap2 _ h0]
        decide
    rw [if_neg g.1, if_neg g.2, if_neg (by decide)]
    simp [meetS]
theorem base_whole {nu a z : Nat} {s : Tw} : baseV nu (meetS nu s a true z) = vi z := by
  have e : (meetS nu s a true z).m0 = (meetS nu s a true z).m1 := by simp [meetS]
  unfold baseV
  rw [e, gap0, if_pos rfl]
  simp [meetS]
/-! ### the invariant -/
structure PInv (T : List (List Nat)) (m f nu k : Nat) (s : Tw) (h0 h1 : Hd) : Prop where
  hb : ∃ B X0 X1, HB T k B X0 X1 h0 h1 ∧ baseV nu s = vi (run T (dss B) f)
  s0 : s.s0 = run T (dss h0) f
  s1 : s.s1 = run T (dss h1) f
  c0 : s.c0 < m
  c1 : s.c1 < m
  m0 : s.m0 < nu
  m1 : s.m1 < nu
  k0 : KV' s.k0
  k1 : KV' s.k1
section
variable {T : List (List Nat)} {m f nu k : Nat} {s : Tw} {h0 h1 : Hd}
theorem PInv.init (hn : nu = 2 ∨ nu = 3) (hf : f < m) : PInv T m f nu k ⟨f, f, f, f, 0, 0, .non, .non⟩ [] [] := by
  refine ⟨⟨[], [], [], ⟨List.Perm.refl _, List.Perm.refl _, List.nodup_nil, fun p hp => (by cases hp), fun p hp => (by cases hp)⟩, ?_⟩, rfl, rfl, hf, hf, by show 0 < nu; omega, by show 0 < nu; omega, .inl rfl, .inl rfl⟩
  unfold baseV
  rw [gap0, if_pos rfl] <;> rfl
theorem PInv.low (h : PInv T m f nu k s h0 h1) (C : Cm T m) (hf : f < m) : s.s0 < m ∧ s.s1 < m := by
  obtain ⟨B, X0, X1, hb, _⟩ := h.hb
  rw [h.s0, h.s1]
  exact ⟨C.run_lt hb.ok0.2.2.1 hf, C.run_lt hb.ok1.2.2.1 hf⟩
theorem PInv.small (h : PInv T m f nu k s h0 h1) (C : Cm T m) (hf : f < m) (hm : m ≤ 12) (hn : nu = 2 ∨ nu = 3) : TwSm s := by
  obtain ⟨l0, l1⟩ := h.low C hf
  have := h.c0
  have := h.c1
  have := h.m0
  have := h.m1
  exact ⟨by omega, by omega, by omega, by omega, by omega, by omega, h.k0, h.k1⟩
theorem PInv.names (h : PInv T m f nu k s h0 h1) : (k ∉ h0.map Prod.fst ∧ k ∉ h1.map Prod.fst) ∧ h0.length ≤ k ∧ h1.length ≤ k := by
  obtain ⟨B, X0, X1, hb, _⟩ := h.hb
  obtain ⟨_, l0, _, a0⟩ := hb.ok0
  obtain ⟨_, l1, _, a1⟩ := hb.ok1
  refine ⟨⟨fun z => ?_, fun z => ?_⟩, l0, l1⟩
  · obtain ⟨p, hp, e⟩ := List.mem_map.mp z
    have := a0 p hp
    omega
  · obtain ⟨p, hp, e⟩ := List.mem_map.mp z
    have := a1 p hp
    omega
theorem PInv.heard (h : PInv T m f nu k s h0 h1) (C : Cm T m) (hf : f < m) (hk : k < 64) : HdOk T f s.s0 h0 ∧ HdOk T f s.s1 h1 := by
  obtain ⟨B, X0, X1, hb, _⟩ := h.hb
  obtain ⟨n0, l0, d0, _⟩ := hb.ok0
  obtain ⟨n1, l1, d1, _⟩ := hb.ok1
  refine ⟨⟨n0, by omega, fun p hp => d0 p.2 (List.mem_map.mpr ⟨p, hp, rfl⟩), fun u hu => ?_⟩, ⟨n1, by omega, fun p hp => d1 p.2 (List.mem_map.mpr ⟨p, hp, rfl⟩), fun u hu => ?_⟩⟩
  · rw [h.s0]
    exact C.perm hu (fun d hd => d0 d (hu.mem_iff.mp hd)) hf
  · rw [h.s1]
    exact C.perm hu (fun d hd => d1 d (hu.mem_iff.mp hd)) hf
theorem PInv.deed (h : PInv T m f nu k s h0 h1) {side d : Nat} (hs : side ≤ 1) (hd : d < T.length) : PInv T m f nu (k + 1) (s.setS side (stp T d (s.st side))) (addH side (k, d) h0 h1).1 (addH side (k, d) h0 h1).2 := by
  obtain ⟨B, X0, X1, hb, eb⟩ := h.hb
  rcases Nat.le_one_iff_eq_zero_or_eq_one.mp hs with rfl | rfl
  · refine ⟨⟨B, X0 ++ [(k, d)], X1, hb.add0 hd, eb⟩, ?_, h.s1, h.c0, h.c1, h.m0, h.m1, h.k0, h.k1⟩
    show stp T d s.s0 = run T (dss (h0 ++ [(k, d)])) f
    rw [dss_app, h.s0]
    exact (run_snoc T (dss h0) d f).symm
  · refine ⟨⟨B, X0, X1 ++ [(k, d)], hb.add1 hd, eb⟩, h.s0, ?_, h.c0, h.c1, h.m0, h.m1, h.k0, h.k1⟩
    show stp T d s.s1 = run T (dss (h1 ++ [(k, d)])) f
    rw [dss_app, h.s1]
    exact (run_snoc T (dss h1) d f).symm
/-- what a meeting finds -/
theorem PInv.finds (h : PInv T m f nu k s h0 h1) (C : Cm T m) (hf : f < m) : ∃ bs z, baseV nu s = vi bs ∧ bs < m ∧ z < m ∧ z = run T (dss (both h0 h1)) f ∧ Ends T bs s.s0 s.s1 z ∧ mergeK (kH h0) (kH h1) = kH (both h0 h1) := by
  obtain ⟨B, X0, X1, hb, eb⟩ := h.hb
  obtain ⟨j1, j2⟩ := hb.joins C hf
  have dU : Dl T (dss (both h0 h1)) := hb.whole.ok0.2.2.1
  refine ⟨_, _, eb, C.run_lt hb.dlB hf, C.run_lt dU hf, rfl, ⟨⟨dss X1, hb.dl1, by rw [h.s1]; exact j1⟩, fun u hu e => ?_⟩, hb.merge⟩
  rw [h.s0]
  exact j2 u hu (by rw [e, h.s1])
theorem PInv.met (h : PInv T m f nu k s h0 h1) (C : Cm T m) (hf : f < m) (hm : m ≤ 12) (hn : nu = 2 ∨ nu = 3) {a z : Nat} {wh : Bool} (ha : a ≤ 1) (hs : a = 0 ∨ nu = 3) (hz : z = run T (dss (both h0 h1)) f) :
    PInv T m f nu (k + 1) (meetS nu s a wh z) (metH a wh (both h0 h1) h0 h1).1 (metH a wh (both h0 h1) h0 h1).2 := by
  obtain ⟨B, X0, X1, hb, eb⟩ := h.hb
  obtain ⟨l0, l1⟩ := h.low C hf
  have zm : z < m := by rw [hz]; exact C.run_lt hb.whole.ok0.2.2.1 hf
  have nu0 : 0 < nu := by omega
  have q0 : mk0 nu s a < nu := by
    unfold mk0
    split
    · exact h.m0
    · split
      · exact Nat.mod_lt _ nu0
      · exact h.m0
  have q1 : mk1 nu s a < nu := by
    unfold mk1
    split
    · exact h.m1
    · split
      · exact h.m1
      · exact Nat.mod_lt _ nu0
  have kk : KV' (meetS nu s a wh z).k0 ∧ KV' (meetS nu s a wh z).k1 := by
    rcases Nat.le_one_iff_eq_zero_or_eq_one.mp ha with rfl | rfl
    · exact ⟨KV'.nat (by show s.s1 < 20; omega), h.k1⟩
    · exact ⟨h.k0, KV'.nat (by show s.s0 < 20; omega)⟩
  have hc0 := h.c0
  have hc1 := h.c1
  cases wh with
  | true =>
    refine ⟨⟨both h0 h1, [], [], ?_, ?_⟩, ?_, ?_, ?_, ?_, ?_, ?_, kk.1, kk.2⟩
    · simp only [metH, true_or, if_true]
      exact hb.whole.up (Nat.le_succ k)
    · rw [base_whole, hz]
    · simp [metH, meetS, hz]
    · simp [metH, meetS, hz]
    · simpa [meetS] using zm
    · simpa [meetS] using zm
    · simp only [meetS, if_true]
      split <;> assumption
    · simp only [meetS, if_true]
      split <;> assumption
  | false =>
    rcases Nat.le_one_iff_eq_zero_or_eq_one.mp ha with rfl | rfl
    · refine ⟨⟨h1, X0, [], ?_, ?_⟩, ?_, ?_, ?_, ?_, ?_, ?_, kk.1, kk.2⟩
      · simp only [metH, or_true, if_true, Bool.false_eq_true, ne_eq, not_true, or_false, if_false]
        exact hb.half0.up (Nat.le_succ k)
      · rw [base_half hn ha hs h.m0 h.m1, if_pos rfl, h.s1]
      · simp [metH, meetS, hz]
      · simp [metH, meetS, h.s1]
      · simpa [meetS] using zm
      · simpa [meetS] using hc1
      · simpa [meetS] using q0
      · simpa [meetS] using q1
    · refine ⟨⟨h0, [], X1, ?_, ?_⟩, ?_, ?_, ?_, ?_, ?_, ?_, kk.1, kk.2⟩
      · simp only [metH, Bool.false_eq_true, Nat.one_ne_zero, or_self, if_false, ne_eq, not_false_eq_true, or_true, if_true]
        exact hb.half1.up (Nat.le_succ k)
      · rw [base_half hn ha hs h.m0 h.m1, if_neg (by decide), h.s0]
      · simp [metH, meetS, h.s0]
      · simp [metH, meetS, hz]
      · simpa [meetS] using hc0
      · simpa [meetS] using zm
      · simpa [meetS] using q0
      · simpa [meetS] using q1
end
/-- the wider machine's deeds -/
theorem cm_wide {T T' : List (List Nat)} {m n : Nat} (hT : TabM T m) (hW : WideOf T m T' n) (hC : ∀ d e s, d < T.length → e < T.length → s < m → stp T d s < m ∧ stp T d (stp T e s) = stp T e (stp T d s)) : Cm T' m := by
  refine ⟨fun d s hd hs => ?_, fun d e s hd he hs => ?_⟩
  · rw [hW.len] at hd
    rw [hW.same d hd s hs]
    exact (hC d d s hd hd hs).1
  · rw [hW.len] at hd he
    obtain ⟨a, c⟩ := hC d e s hd he hs
    obtain ⟨b, _⟩ := hC e d s he hd hs
    rw [hW.same e he s hs, hW.same d hd s hs, hW.same d hd _ b, hW.same e he _ a]
    exact c
theorem Cm.com {T : List (List Nat)} {m f : Nat} (C : Cm T m) (hf : f < m) : Com T f := ⟨fun x => x < m, hf, fun s hs d hd => C.st d s hd hs, fun x hx d e hd he => C.co e d x he hd hx⟩
end K35
set_option maxHeartbeats 4000000
/-! The law's _law_heard: what it makes of a lambda that raises. -/
namespace K35
open PySem PySem.Spec PyProof.Rows L2 LamX
/-- the four exceptions: which is which, and that their fields can be read -/
structure XM (K : PySem.W.Frag) (mg : Str → Option Value) (CS CD CU CR : Addr) : Prop where
  mS : mg "NoState" = some (.ref CS)
  mD : mg "NoDeed" = some (.ref CD)
  mU : mg "Uncommuting" = some (.ref CU)
  mR : mg "Refused" = some (.ref CR)
  ss : PySem.W.exmOne K (.ref CS) (.ref CS) = some true
  ds : PySem.W.exmOne K (.ref CD) (.ref CS) = some false
  dd : PySem.W.exmOne K (.ref CD) (.ref CD) = some true
  us : PySem.W.exmOne K (.ref CU) (.ref CS) = some false
  ud : PySem.W.exmOne K (.ref CU) (.ref CD) = some false
  uu : PySem.W.exmOne K (.ref CU) (.ref CU) = some true
  rs : PySem.W.exmOne K (.ref CR) (.ref CS) = some false
  rd : PySem.W.exmOne K (.ref CR) (.ref CD) = some false
  ru : PySem.W.exmOne K (.ref CR) (.ref CU) = some false
  rr : PySem.W.exmOne K (.ref CR) (.ref CR) = some true
  xS : XfC K CS
  xD : XfC K CD
  xU : XfC K CU
  xR : XfC K CR
  fS : PySem.W.findIn K (.ref CS) "state" = some none
  fD : PySem.W.findIn K (.ref CD) "deed" = some none
  fU1 : PySem.W.findIn K (.ref CU) "state" = some none
  fU2 : PySem.W.findIn K (.ref CU) "one" = some none
  fU3 : PySem.W.findIn K (.ref CU) "other" = some none
  fR : PySem.W.findIn K (.ref CR) "at" = some none
/-- its repr can be told -/
structure Rp (K : PySem.W.Frag) (H : Hp) (v : V) (pd : PyData) : Prop where
  dp : Dp K H v pd
  sh : pd.showable = true
  nd : pd.hasDict = false
  dk : pd.depth ≤ 60
  sz : pd.shown.length ≤ sizeLine
  so : PyData.strOk pd.shown = true
def xd1 (f : Str) (v : V) : HO := .xd [(f, v)]
def xd3 : HO := .xd [("state", vi 0), ("one", vi 0), ("other", vi 1)]
/-- what is told of an exception of the class C with one field -/
def Hw1 (K : PySem.W.Frag) (f z : Str) (Q : VK) (d : Option Addr) (H : Hp) : Prop := ∃ v pd dd, d = some dd ∧ H dd = some (xd1 f v) ∧ Rp K H v pd ∧ ∀ p, H p = none → Q (.ref p) (upd H p (.tup [.str z, .str pd.shown]))
def Hw3 (Q : VK) (d : Option Addr) (H : Hp) : Prop := ∃ dd, d = some dd ∧ H dd = some xd3 ∧ ∀ p, H p = none → Q (.ref p) (upd H p (.tup [.str "uncommuting", vi 0, vi 0, vi 1]))
def HWay (K : PySem.W.Frag) (CS CD CU CR : Addr) (Q : VK) : XK := fun cls d H =>
  (cls = .ref CS ∧ Hw1 K "state" "state" Q d H) ∨ (cls = .ref CD ∧ Hw1 K "deed" "deed" Q d H) ∨ (cls = .ref CU ∧ Hw3 Q d H) ∨ (cls = .ref CR ∧ Hw1 K "at" "refused" Q d H)
def THeard (K : PySem.W.Frag) (CS CD CU CR : Addr) : (XK → Hp → VK → Prop) → Hp → VK → Prop := fun tl H Q => ∀ Q', tl (HWay K CS CD CU CR Q) H Q'
def rReprD (K : PySem.W.Frag) : List V → Hp → VK → Prop := fun xs H Q => ∃ (v : V) (d : PyData), xs = [v] ∧ Dp K H v d ∧ d.showable = true ∧ d.hasDict = false ∧ d.depth ≤ 60 ∧ d.shown.length ≤ sizeLine ∧ Q (.str d.shown) H
abbrev N_law_heard : List Str := ["_law_ask", "fault"]
theorem sc_law_heard : FnScope N_law_heard ["_law_ask"] (defScope s_law_heard) := ⟨rfl, rfl, rfl, by decide +kernel, rfl, by decide +kernel, by decide +kernel⟩
section
variable {X : Cx} {CS CD CU CR : Addr}
theorem heard_gives {g : Addr} {cdg : Value} {q : Str} (M : XM X.K X.mg CS CD CU CR) (B : Bu X.mg) (G : X.A.guards = some []) (hu : X.A.units + 70 < cLine) :
    GivesTo X N_law_heard "_law_heard" (defScope s_law_heard) g cdg (defBody s_law_heard) "_law_ask" q (THeard X.K CS CD CU CR) := by
  intro f c' s H Q tl act hc h
  have hu2 : ∀ a : Value, ((X.A.deeper (envOfC "_law_heard" (defScope s_law_heard) s.heap.objs.size g cdg)).mark (some a)).units + 64 < cLine := fun a => by
    show X.A.units + 3 + 64 < cLine
    omega
  have RP : ∀ (a : Addr) (oe : Obj) (pn : List (Addr × Obj)), CallR ((cxOf C8.CX0 X.prog X.w X.K X.mg X.base N_law_heard "_law_heard" (defScope s_law_heard) g cdg X.A X.stack s H C8.E0).nox.suite a ((a, oe) :: pn)) (.builtin "repr") (rReprD X.K) := fun a oe pn => call_reprU G (hu2 _)
  refine ⟨_, pss_one (ps_try_manyAs (X := (cxOf C8.CX0 X.prog X.w X.K X.mg X.base N_law_heard "_law_heard" (defScope s_law_heard) g cdg X.A X.stack s H C8.E0).nox) (i := 1)
    (tb := fun W D σ H => ∃ Ech : XK, (∀ cls d σ' H', Ech cls d H' → W cls d σ' H') ∧ σ[0]? = some (some (.ref f)) ∧ H c' = some (CodeO c' q) ∧ ∀ Q', tl Ech H Q')
    rfl rfl sc_law_heard.nd rfl rfl LamX.takes0 (fun W pn xe tk _ => ?_)
    (HdsAs.cons (x := "NoState") (c := .ref CS) ⟨rfl, by decide, .inl M.mS⟩ (fun a oe cls d pn hz hf => pss_one (ps_ret (pe_tup (pa_cons pe_str (pa_cons (pe_callB (RP a oe pn) (by rfl) B.repr (by decide +kernel) (pa_cons (pe_xf M.xS M.fS hz hf (pv 1)) pa_nil)) pa_nil)))))
    (HdsAs.cons (x := "NoDeed") (c := .ref CD) ⟨rfl, by decide, .inl M.mD⟩ (fun a oe cls d pn hz hf => pss_one (ps_ret (pe_tup (pa_cons pe_str (pa_cons (pe_callB (RP a oe pn) (by rfl) B.repr (by decide +kernel) (pa_cons (pe_xf M.xD M.fD hz hf (pv 1)) pa_nil)) pa_nil)))))
    (HdsAs.cons (x := "Uncommuting") (c := .ref CU) ⟨rfl, by decide, .inl M.mU⟩ (fun a oe cls d pn hz hf => pss_one (ps_ret (pe_tup (pa_cons pe_str (pa_cons (pe_xf M.xU M.fU1 hz hf (pv 1)) (pa_cons (pe_xf M.xU M.fU2 hz hf (pv 1)) (pa_cons (pe_xf M.xU M.fU3 hz hf (pv 1)) pa_nil)))))))
    (HdsAs.cons (x := "Refused") (c := .ref CR) ⟨rfl, by decide, .inl M.mR⟩ (fun a oe cls d pn hz hf => pss_one (ps_ret (pe_tup (pa_cons pe_str (pa_cons (pe_callB (RP a oe pn) (by rfl) B.repr (by decide +kernel) (pa_cons (pe_xf M.xR M.fR hz hf (pv 1)) pa_nil)) pa_nil)))))
    HdsAs.nil))))), ?_⟩
  · refine ⟨fun pins s' σ H' D I h' => ?_⟩
    obtain ⟨Ech, hW, h1, h2, h3⟩ := h'
    exact (pss_one (ps_ret (pe_tup (pa_cons pe_str (pa_cons (act W pn xe Ech _ _ tk hW) pa_nil))))).run pins s' σ H' D I ⟨h1, h2, h3 _⟩
  · refine ⟨HWay X.K CS CD CU CR Q, fun cls d σ' H' w => ?_, rfl, hc, h⟩
    have one : ∀ {C : Addr} {fl z : Str} {a : Addr} {σ'' : L2.St}, (σ''.set 1 (some (V.ref a)))[1]? = some (some (V.ref a)) → Hw1 X.K fl z Q d H' → tXf a (.ref C) d C fl (tVar 1) (σ''.set 1 (some (.ref a))) H' (fun v H1 => ∃ (v' : V) (pd : PyData), [v] = [v'] ∧ Dp X.K H1 v' pd ∧ pd.showable = true ∧ pd.hasDict = false ∧ pd.depth ≤ 60 ∧ pd.shown.length ≤ sizeLine ∧
        2 ≤ sizeLine ∧ ∀ p, H1 p = none → Q (.ref p) (upd H1 p (.tup [.str z, .str pd.shown]))) := fun hs ⟨v, pd, dd, e1, e2, r, k⟩ =>
      ⟨_, hs, rfl, rfl, dd, _, v, e1, e2, by simp, v, pd, rfl, r.dp, r.sh, r.nd, r.dk, r.sz, by show 2 ≤ sizeLine; decide, k⟩
    rcases w with ⟨rfl, w⟩ | ⟨rfl, w⟩ | ⟨rfl, w⟩ | ⟨rfl, w⟩
    · exact ⟨true, M.ss, fun _ a na hs => one hs w, fun z => by cases z⟩
    · exact ⟨false, M.ds, fun z => (by cases z), fun _ => ⟨true, M.dd, fun _ a na hs => one hs w, fun z => by cases z⟩⟩
    · obtain ⟨dd, e1, e2, k⟩ := w
      refine ⟨false, M.us, fun z => (by cases z), fun _ => ⟨false, M.ud, fun z => (by cases z), fun _ => ⟨true, M.uu, fun _ a na hs => ?_, fun z => by cases z⟩⟩⟩
      exact ⟨_, hs, rfl, rfl, dd, _, vi 0, e1, e2, rfl, _, hs, rfl, rfl, dd, _, vi 0, e1, e2, rfl, _, hs, rfl, rfl, dd, _, vi 1, e1, e2, rfl, by show 4 ≤ sizeLine; decide, k⟩
    · exact ⟨false, M.rs, fun z => (by cases z), fun _ => ⟨false, M.rd, fun z => (by cases z), fun _ => ⟨false, M.ru, fun z => (by cases z), fun _ => ⟨true, M.rr, fun _ a na hs => one hs w, fun z => by cases z⟩⟩⟩⟩
/-- the def _law_heard as it stands -/
structure HdF (K : PySem.W.Frag) (mg : Str → Option Value) : Prop where
  ex : ∃ (g : Addr) (fd : FuncData), mg "_law_heard" = some (.ref g) ∧ PySem.W.keepIn K (.ref g) = true ∧ L2.Binds K fd ["_law_ask"] [] ∧ Fd K "_law_heard" "_law_heard" s_law_heard g fd
/-- _law_heard(lambda: body) -/
theorem pe_heard {sc : Scope} {T : List (Addr × Str)} {c P : Addr} {k : Nat} {params : Arguments} {body : Expr} {scope : Scope} {t : XK → TE} {p lpos pos : Pos} (hF : HdF X.K X.mg) (hg : Gl X "_law_heard") (M : XM X.K X.mg CS CD CU CR) (B : Bu X.mg) (G : X.A.guards = some [])
    (TB : TabB X.base X.mg c P) (hcode : X.env.code = .ref c) (hmT : (P, X.env.qual ++ "<lambda>") ∈ T) (hu : ∀ p ∈ T, p.1 = P → p.2 = X.env.qual ++ "<lambda>") (hr : Room (k + 2) X.A)
    (hbody : ∀ (A : Around) (outer : List Env) (s : Shared) (H : Hp) (E : XK) (f c' : Addr), Room k (A.deeper (lamEnv X scope s.heap.objs.size f c')) → PE (lamCx X A outer s H E scope f c') body (t E))
    (hsc : X.env.scope = sc := by rfl) (hL : lamSB sc scope = true := by decide +kernel) (hdef : defaultsOf params X.env = ([], []) := by rfl)
    (hbind : ∀ (q : Str) (cl : List (Str × Addr)) (pm cv ctv : Value), bindArgs (PySem.W.kla_fn "<lambda>" q params body scope cl pm cv ctv) ⟨[], []⟩ = pure [] := by intros; rfl) :
    PE X (.Call (.Name "_law_heard" p) [.Lambda params body scope lpos] [] pos) (tLam T (THeard X.K CS CD CU CR) t) := by
  obtain ⟨g, fd, hm, hk, hb, F⟩ := hF.ex
  obtain ⟨oc, od, dV, kV, doc, pm, an, cdv, ct, osl, rfl, lk, hcd, _, _⟩ := F.ex
  exact pe_lamcall hg hm hk lk hcd hb sc_law_heard rfl (.inl rfl) (heard_gives M B G (by have := hr.un; omega)) TB hcode hmT hu hr (hsc ▸ lamS_by hL) hdef hbind hbody
end
end K35
set_option maxHeartbeats 4000000
/-! Calls by keywords; what stays besides the box and the tables; odd values; _law_strangers_right. -/
namespace K35
open PySem PySem.Spec PyProof.Rows L2 LamX
/-! ### a method called by keywords, a class called -/
structure MetK (P : Program) (w : World) (K : PySem.W.Frag) (mg : Str → Option Value) (base : Heap) (k : Nat) (C : Addr) (m : Str) (ps : List Str) (sp : Sp) (ks : List Str) (gV : List V → List V → List V) : Prop where
  ex : ∃ (f : Addr) (fd : FuncData) (g : List Value → List Value → List Value), Meth K C m f ∧ KBn K fd ps 1 ks g gV ∧ FnOk P w K mg base (L2.CX P w) k f fd ps sp
structure MakK (P : Program) (w : World) (K : PySem.W.Frag) (mg : Str → Option Value) (base : Heap) (k : Nat) (x : Str) (C : Addr) (ps : List Str) (sp : Sp) (n : Nat) (ks : List Str) (gV : List V → List V → List V) : Prop where
  ex : ∃ (f : Addr) (fd : FuncData) (g : List Value → List Value → List Value), mg x = some (.ref C) ∧ Mk K C f ∧ KBn K fd ps (n + 1) ks g gV ∧ FnOk P w K mg base (L2.CX P w) k f fd ps sp
structure MakP (P : Program) (w : World) (K : PySem.W.Frag) (mg : Str → Option Value) (base : Heap) (k : Nat) (x : Str) (C : Addr) (ps : List Str) (sp : Sp) : Prop where
  ex : ∃ (f : Addr) (fd : FuncData), mg x = some (.ref C) ∧ Mk K C f ∧ L2.Binds K fd ps [] ∧ FnOk P w K mg base (L2.CX P w) k f fd ps sp
section
variable {X : Cx} {k n : Nat} {m x : Str} {C : Addr} {ps ks : List Str} {sp : Sp} {E : XK} {apos pos p : Pos} {o e : Expr} {es : List Expr} {kws : List Keyword} {ta : TE} {t tk : TA} {pl : Sem Bool} {gV : List V → List V → List V}
theorem pe_mtK (c : Cls X.K C) (M : MetK X.prog X.w X.K X.mg X.base k C m ps sp ks gV) (hr : Room k X.A) (hx : Passes (L2.CX X.prog X.w) X E) (he : PE X o ta) (hkw : PK X kws tk)
    (hall : (backToKw pos (keywordEach kws X.env)).all (·.1.isSome) = true := by rfl) (hks : (backToKw pos (keywordEach kws X.env)).filterMap (·.1) = ks := by rfl)
    (hpl : ((backTo pos (starEach [] X.env)).any (·.1) || (backToKw pos (keywordEach kws X.env)).any (·.1.isNone)) = false := by rfl)
    (ht : eval (.Call (.Attribute o m apos) [] kws pos) X.env = (do
      let ov ← eval o X.env
      standAt apos.atName
      let (f, first) ← holding [ov] (getMethod ov m pl)
      callWith pos f first (backTo pos (starEach [] X.env)) (backToKw pos (keywordEach kws X.env))) := by rfl) :
    PE X (.Call (.Attribute o m apos) [] kws pos) (tMethK C m ks.length sp gV E ta tk) := by
  obtain ⟨f, fd, g, hm, hb, F⟩ := M.ex
  exact pe_methK0 he c hm F hr hb hx hkw hall hks hpl ht
theorem pe_mkK (M : MakK X.prog X.w X.K X.mg X.base k x C ps sp n ks gV) (hr : Room (k + 1) X.A) (hg : Gl X x) (hx : Passes (L2.CX X.prog X.w) X E) (ha : PA X (e :: es) t) (hkw : PK X kws tk)
    (hall : (backToKw pos (keywordEach kws X.env)).all (·.1.isSome) = true := by rfl) (hks : (backToKw pos (keywordEach kws X.env)).filterMap (·.1) = ks := by rfl) (hdb : (x == ("__debug__" : Str)) = false := by decide)
    (he : starEach (e :: es) X.env = (false, eval e X.env) :: starEach es X.env := by rfl) (hpl : ((backTo pos (starEach (e :: es) X.env)).any (·.1) || (backToKw pos (keywordEach kws X.env)).any (·.1.isNone)) = false := by rfl) :
    PE X (.Call (.Name x p) (e :: es) kws pos) (tMakeK C n ks.length sp gV E t tk) := by
  obtain ⟨f, fd, g, hm, mk, hb, F⟩ := M.ex
  exact pe_makeK mk F hr hg hm hb hx ha hkw hall hks hdb he hpl
theorem pe_mkK0 (M : MakK X.prog X.w X.K X.mg X.base k x C ps sp 0 ks gV) (hr : Room (k + 1) X.A) (hg : Gl X x) (hx : Passes (L2.CX X.prog X.w) X E) (hkw : PK X kws tk)
    (hall : (backToKw pos (keywordEach kws X.env)).all (·.1.isSome) = true := by rfl) (hks : (backToKw pos (keywordEach kws X.env)).filterMap (·.1) = ks := by rfl) (hdb : (x == ("__debug__" : Str)) = false := by decide)
    (hpl : ((backTo pos (starEach [] X.env)).any (·.1) || (backToKw pos (keywordEach kws X.env)).any (·.1.isNone)) = false := by rfl) :
    PE X (.Call (.Name x p) [] kws pos) (tMakeK C 0 ks.length sp gV E tNil tk) := by
  obtain ⟨f, fd, g, hm, mk, hb, F⟩ := M.ex
  exact pe_makeK0 mk F hr hg hm hb hx hkw hall hks hdb hpl
theorem pe_mkP (M : MakP X.prog X.w X.K X.mg X.base k x C ps sp) (hr : Room (k + 1) X.A) (hg : Gl X x) (hx : Passes (L2.CX X.prog X.w) X E) (ha : PA X (e :: es) t)
    (hdb : (x == ("__debug__" : Str)) = false := by decide) (he : starEach (e :: es) X.env = (false, eval e X.env) :: starEach es X.env := by rfl) (hpl : (backTo pos (starEach es X.env)).any (·.1) = false := by rfl) :
    PE X (.Call (.Name x p) (e :: es) [] pos) (tMake C sp [] E t) := by
  obtain ⟨f, fd, hm, mk, hb, F⟩ := M.ex
  exact pe_make mk F hr hg hm hb .nil hx ha hdb he hpl
end
/-! ### what stays besides a box and the tables -/
def StayN (b : Addr) (H H' : Hp) : Prop := ∀ x o, x ≠ b → H x = some o → (∀ ps, o ≠ .tbl ps) → H' x = some o
section
variable {b : Addr} {H H1 H2 H' : Hp}
theorem StayN.refl (b : Addr) (H : Hp) : StayN b H H := fun _ _ _ e _ => e
theorem StayN.trans (a : StayN b H H1) (c : StayN b H1 H2) : StayN b H H2 := fun x o hx e n => c x o hx (a x o hx e n) n
theorem StayN.same (s : Same H H') : StayN b H H' := fun x o _ e _ => s x o e
theorem StayN.ext (s : ExtN H H') : StayN b H H' := fun x o _ e n => s x o e n
theorem StayN.but (s : SameBut b H H') : StayN b H H' := fun x o hx e _ => s x o hx e
theorem StayN.tup (s : StayN b H H') (hb : BoxAt H b) {x : Addr} {xs : List V} (e : H x = some (.tup xs)) : H' x = some (.tup xs) := s x _ (hb.tup e) e (fun ps z => by cases z)
theorem BoxAt.neIns {x : Addr} {C dx : Addr} {fs : List (Str × V)} (hb : BoxAt H b) (e : H x = some (.ins C dx fs)) : x ≠ b := by
  obtain ⟨i, j, h, _⟩ := hb
  exact ne_of e h (by intro z; cases z)
theorem StayN.ins (s : StayN b H H') (hb : BoxAt H b) {x C dx : Addr} {fs : List (Str × V)} (e : H x = some (.ins C dx fs)) : H' x = some (.ins C dx fs) := s x _ (hb.neIns e) e (fun ps z => by cases z)
theorem TwAt.stay {CT tw m : Addr} {first nums keeps : V} {s : Tw} (h : TwAt CT H tw m first nums keeps s) (hb : BoxAt H b) (k : StayN b H H') : TwAt CT H' tw m first nums keeps s := by
  obtain ⟨dx, a, c, d, e, h1, h2, h3, h4, h5⟩ := h
  exact ⟨dx, a, c, d, e, k.ins hb h1, k.tup hb h2, k.tup hb h3, k.tup hb h4, k.tup hb h5⟩
theorem MachOk.stay {CM m : Addr} {T : List (List Nat)} {n : Nat} (h : MachOk CM H m T n) (hb : BoxAt H b) (k : StayN b H H') : MachOk CM H' m T n := by
  obtain ⟨t, dx, as, h1, h2, h3, h4⟩ := h
  exact ⟨t, dx, as, k.ins hb h1, k.tup hb h2, h3.same fun c xs e => k.tup hb e, h4⟩
theorem BoxAt.ext (h : BoxAt H b) (s : ExtN H H') : BoxAt H' b := by
  obtain ⟨x, y, e, h1, h2⟩ := h
  exact ⟨x, y, s _ _ e (fun ps z => by cases z), h1, h2⟩
theorem _root_.LamX.Tabs.but {TT : List (Addr × Str)} (h : Tabs TT H) (hb : BoxAt H b) (s : SameBut b H H') : Tabs TT H' := fun p hp => by
  obtain ⟨ps, h1, h2, h3⟩ := h p hp
  obtain ⟨x, y, e, _, _⟩ := hb
  refine ⟨ps, s _ _ (ne_of h1 e (by intro z; cases z)) h1, h2, fun pos cv hc => ?_⟩
  obtain ⟨c, e1, e2⟩ := h3 pos cv hc
  exact ⟨c, e1, s _ _ (ne_of e2 e (by intro z; unfold CodeO at z; cases z)) e2⟩
theorem _root_.LamX.Tabs.same {TT : List (Addr × Str)} (h : Tabs TT H) (s : Same H H') : Tabs TT H' := h.ext fun b o e => s b o e
end
/-! ### odd values -/
def OddAt (K : PySem.W.Frag) (b : Addr) (H : Hp) (v : V) (pd : PyData) : Prop := ∀ H', StayN b H H' → Sc K H' v ∧ Rp K H' v pd
theorem Good.rp {K : PySem.W.Frag} {H : Hp} {v : V} {pd : PyData} (g : Good pd 3 100) (so : PyData.strOk pd.shown = true) (d : Dp K H v pd) : Rp K H v pd := ⟨d, g.sh, g.nd, Nat.le_trans g.dp (by decide), g.fits (by decide), so⟩
theorem Good.wide {d : PyData} {k k' w w' : Nat} (h : Good d k w) (e : k ≤ k') (e2 : w ≤ w') : Good d k' w' := ⟨h.sh, h.nd, Nat.le_trans h.dp e, h.lf, Nat.le_trans h.wt e2⟩
section
variable {K : PySem.W.Frag} {b : Addr} {H : Hp}
theorem odd_non : OddAt K b H .non .none := fun H' _ => ⟨.non, (good_non.wide (Nat.zero_le 3) (by decide)).rp (by decide +kernel) .non⟩
theorem odd_bl {c : Bool} : OddAt K b H (.bl c) (.bool c) := fun H' _ => ⟨.bl c, (good_bl.wide (Nat.zero_le 3) (by decide)).rp (by cases c <;> decide +kernel) (.bl c)⟩
theorem so_ints : ∀ x : Nat, x < 20 → PyData.strOk (PyData.int (x : Int)).shown = true := by decide +kernel
theorem odd_nat {x : Nat} (h : x < 20) : OddAt K b H (vi x) (.int x) := fun H' _ => ⟨.int _, ((good_int h).wide (Nat.zero_le 3) (by decide)).rp (so_ints _ h) (.int _)⟩
theorem good_m1 : Good (.int (-1)) 0 20 := ⟨by decide +kernel, by decide +kernel, by decide +kernel, by decide +kernel, by decide +kernel⟩
theorem odd_m1 : OddAt K b H (.int (0 - 1)) (.int (-1)) := fun H' _ => ⟨.int _, (good_m1.wide (Nat.zero_le 3) (by decide)).rp (by decide +kernel) (.int _)⟩
theorem good_strs : Good (.str "0") 0 20 ∧ Good (.str "2") 0 20 ∧ Good (.str "True") 0 20 := ⟨⟨by decide +kernel, by decide +kernel, by decide +kernel, by decide +kernel, by decide +kernel⟩, ⟨by decide +kernel, by decide +kernel, by decide +kernel, by decide +kernel, by decide +kernel⟩, ⟨by decide +kernel, by decide +kernel, by decide +kernel, by decide +kernel, by decide +kernel⟩⟩
theorem odd_str {z : Str} (g : Good (.str z) 0 20) (so : PyData.strOk (PyData.str z).shown = true) : OddAt K b H (.str z) (.str z) := fun H' _ => ⟨.str z, (g.wide (Nat.zero_le 3) (by decide)).rp so (.str z)⟩
theorem odd_tup {p : Addr} (hb : BoxAt H b) (hp : H p = some (.tup [])) : OddAt K b H (.ref p) (.tuple []) := fun H' s => by
  have h := s.tup hb hp
  exact ⟨.tup p h, ((GoodAll.nil (k := 0) (w := 0)).tup.wide (by decide) (by decide)).rp (by decide +kernel) (.tup (SqT.of h) .nil)⟩
theorem OddAt.up {H' : Hp} {v : V} {pd : PyData} (h : OddAt K b H v pd) (s : StayN b H H') : OddAt K b H' v pd := fun H2 s2 => h H2 (s.trans s2)
end
/-! ### the ways out of _law_heard -/
section
variable {K : PySem.W.Frag} {CS CD CU CR x : Addr} {Q : VK} {H : Hp} {v : V} {pd : PyData}
theorem hw_at (hx : H x = none) (r : ∀ H', Same H H' → Rp K H' v pd) (k : ∀ H' p, Same H H' → H' p = some (.tup [.str "refused", .str pd.shown]) → Q (.ref p) H') : HWay K CS CD CU CR Q (.ref CR) (some x) (upd H x (.xd [("at", v)])) :=
  .inr (.inr (.inr ⟨rfl, v, pd, x, rfl, upd_same, r _ (Same.new hx), fun p hp => k _ p ((Same.new hx).trans (Same.new hp)) upd_same⟩))
theorem hw_deed (hx : H x = none) (r : ∀ H', Same H H' → Rp K H' v pd) (k : ∀ H' p, Same H H' → H' p = some (.tup [.str "deed", .str pd.shown]) → Q (.ref p) H') : HWay K CS CD CU CR Q (.ref CD) (some x) (upd H x (.xd [("deed", v)])) :=
  .inr (.inl ⟨rfl, v, pd, x, rfl, upd_same, r _ (Same.new hx), fun p hp => k _ p ((Same.new hx).trans (Same.new hp)) upd_same⟩)
theorem hw_state (hx : H x = none) (r : ∀ H', Same H H' → Rp K H' v pd) (k : ∀ H' p, Same H H' → H' p = some (.tup [.str "state", .str pd.shown]) → Q (.ref p) H') : HWay K CS CD CU CR Q (.ref CS) (some x) (upd H x (.xd [("state", v)])) :=
  .inl ⟨rfl, v, pd, x, rfl, upd_same, r _ (Same.new hx), fun p hp => k _ p ((Same.new hx).trans (Same.new hp)) upd_same⟩
theorem hw_unc (hx : H x = none) (k : ∀ H' p, Same H H' → H' p = some (.tup [.str "uncommuting", vi 0, vi 0, vi 1]) → Q (.ref p) H') : HWay K CS CD CU CR Q (.ref CU) (some x) (upd H x (.xd [("state", vi 0), ("one", vi 0), ("other", vi 1)])) :=
  .inr (.inr (.inl ⟨rfl, x, rfl, upd_same, fun p hp => k _ p ((Same.new hx).trans (Same.new hp)) upd_same⟩))
end
/-- two texts in a tuple, compared -/
def dS2 (y z : Str) : PyData := .tuple [.str y, .str z]
theorem cl_s2 {y z : Str} (hy : PyData.strOk y = true) (hz : PyData.strOk z = true) : (dS2 y z).canLay0 = true := by
  simp only [dS2, PyData.canLay0, PyData.canLayAll0, hy, hz, Bool.and_self]
theorem sh_s2 {y z : Str} (hy : PyData.strOk y = true) (hz : PyData.strOk z = true) : SeqAt.shaped (dS2 y z) = true := by
  unfold SeqAt.shaped
  rw [cl_s2 hy hz, decide_eq_true (show (dS2 y z).depth ≤ 64 by simp [dS2, PyData.depth, PyData.depthAll])] <;> rfl
theorem dp_s2 {K : PySem.W.Frag} {H : Hp} {p : Addr} {y z : Str} (h : H p = some (.tup [.str y, .str z])) : Dp K H (.ref p) (dS2 y z) := .tup (SqT.of h) (.cons (.str y) (.cons (.str z) .nil))
/-- the def's code object makes lambdas, in a table -/
structure LamF (K : PySem.W.Frag) (base : Heap) (mg : Str → Option Value) (f : Addr) (q : Str) (TT : List (Addr × Str)) : Prop where
  ex : ∃ c P : Addr, (∀ (oc : Value) (od : Option Addr) (fd : FuncData) (osl : Array (Option Value)), K.lookup f = some ⟨oc, od, .func fd, osl⟩ → fd.code = .ref c) ∧ TabB base mg c P ∧ (P, q) ∈ TT ∧ ∀ p ∈ TT, p.1 = P → p.2 = q
section
variable {w : World} {K : PySem.W.Frag} {mg : Str → Option Value} {base : Heap}
def spStr (K : PySem.W.Frag) (CT CM : Addr) (TT : List (Addr × Str)) : Sp := fun vs H Q _ => ∃ (b tw m : Addr) (first : V) (nu : Nat) (s : Tw) (T : List (List Nat)) (n : Nat), vs = [.ref b, .ref m, .ref tw, vi nu] ∧ BoxAt H b ∧ TwAt CT H tw m first (vi nu) (.bl true) s ∧ MachOk CM H m T n ∧ s.s0 < n ∧ s.s1 < n ∧ (nu = 2 ∨ nu = 3) ∧ TwSm s ∧ Tabs TT H ∧
  ∀ H', StayN b H H' → BoxAt H' b → Tabs TT H' → Q (.bl true) H'
abbrev N_law_strangers_right : List Str := ["_law_box_here", "_law_machine_here", "_law_twin", "_law_numbers", "_law_before", "_law_side", "_law_deed", "_law_whole"]
theorem sc_law_strangers_right : FnScope N_law_strangers_right ["_law_box_here", "_law_machine_here", "_law_twin", "_law_numbers"] (defScope s_law_strangers_right) := ⟨rfl, rfl, rfl, by decide +kernel, rfl, by decide +kernel, by decide +kernel⟩
theorem ok_law_strangers_right {CT CM CS CD CU CR : Addr} {TT : List (Addr × Str)} {f : Addr} {fd : FuncData} (F : Fd K "_law_strangers_right" "_law_strangers_right" s_law_strangers_right f fd) (B : Bu mg) (TC : TF K CT) (M : MF K CM) (XF : XM K mg CS CD CU CR) (HF : HdF K mg) (LF : LamF K base mg f "_law_strangers_right.<locals>.<lambda>" TT)
    (C_law_pick : Cal Pg w K mg base 2 "_law_pick" ["_law_box_here", "_law_some"] (spPick K)) (M_do : Met Pg w K mg base 5 CT "do" ["self", "side", "deed"] (spDo K CT CM CR CD))
    (KM_meet_side_whole : MetK Pg w K mg base 6 CT "meet" ["self", "side", "whole"] (spMeet K CT CM CR) ["side", "whole"] (fun vs zs => vs ++ zs)) (KM_meet_whole : MetK Pg w K mg base 6 CT "meet" ["self", "side", "whole"] (spMeet K CT CM CR) ["whole"] (fun vs zs => vs ++ [.int 0] ++ zs)) :
    FnG Pg w K mg base (L2.CX Pg w) 9 f fd ["_law_box_here", "_law_machine_here", "_law_twin", "_law_numbers"] (spStr K CT CM TT) := by
  refine fnG_of F sc_law_strangers_right (fun vs H Q E ⟨b, tw, m, fi, nu, s, T, n, ev, _⟩ => by rw [ev] <;> rfl) fun cdv A outer s0 H vs Q E hg hr hcd hlk ⟨b, tw, m, fi, nu, s, T, n, ev, hb, hA, hM, l0, l1, hn, sm, hT, q⟩ => ?_
  subst ev
  have G : (A.deeper (envOfC "_law_strangers_right" (defScope s_law_strangers_right) s0.heap.objs.size f cdv)).guards = some [] := hg
  obtain ⟨c, P, hc, TB, hmT, huT⟩ := LF.ex
  obtain ⟨oc, od, osl, lk, ecd⟩ := hlk
  have hcode : cdv = .ref c := by rw [← ecd]; exact hc _ _ _ _ lk
  refine ⟨_, (pss_cons (ps_set (i := 4) sc_law_strangers_right.nd rfl (Or.inl rfl) (pe_callB (call_reprD G hr) (by rfl) B.repr (by decide +kernel) (pa_cons (pe_lst (pa_cons (pe_fld (pv 2) rfl) (pa_cons (pe_fld (pv 2) rfl) (pa_cons (pe_fld (pv 2) rfl) (pa_cons (pe_fld (pv 2) rfl) pa_nil))))) pa_nil)))
  (pss_cons (ps_set (i := 5) sc_law_strangers_right.nd rfl (Or.inr rfl) (pe_cal C_law_pick (hr.mono (by decide)) (by rfl) passL (pa_cons (pv 0) (pa_cons (pe_lst (pa_cons pe_int (pa_cons (pe_op op_sub pe_int pe_int) (pa_cons pe_non (pa_cons pe_bl (pa_cons pe_str pa_nil)))))) pa_nil))))
  (pss_cons (ps_if (pt_cmpR (op_neD hr.units) (pe_heard (sc := defScope s_law_strangers_right) HF (by rfl) XF B G TB hcode hmT huT hr (fun _ _ _ _ _ _ _ hr2 => (pe_mt TC.cl M_do (hr2.mono (by decide)) (passE (takes_of rfl rfl rfl rfl)) (pv 2) (pa_cons (pv 5) (pa_cons pe_non pa_nil))))) (pe_tup (pa_cons pe_str (pa_cons (pe_callB (call_reprD G hr) (by rfl) B.repr (by decide +kernel) (pa_cons (pv 5) pa_nil)) pa_nil))) (nomark _)) (pss_one (ps_ret pe_bl)) pss_nil)
  (pss_cons (ps_if (pt_cmpR (op_neD hr.units) (pe_heard (sc := defScope s_law_strangers_right) HF (by rfl) XF B G TB hcode hmT huT hr (fun _ _ _ _ _ _ _ hr2 => (pe_mtK TC.cl KM_meet_side_whole (hr2.mono (by decide)) (passE (takes_of rfl rfl rfl rfl)) (pv 2) (pk_cons (pv 5) (pk_cons pe_non pk_nil))))) (pe_tup (pa_cons pe_str (pa_cons (pe_callB (call_reprD G hr) (by rfl) B.repr (by decide +kernel) (pa_cons (pv 5) pa_nil)) pa_nil))) (nomark _)) (pss_one (ps_ret pe_bl)) pss_nil)
  (pss_cons (ps_set (i := 6) sc_law_strangers_right.nd rfl (Or.inr rfl) (pe_cal C_law_pick (hr.mono (by decide)) (by rfl) passL (pa_cons (pv 0) (pa_cons (pe_lst (pa_cons (pe_fld (pv 1) rfl) (pa_cons (pe_op op_sub pe_int pe_int) (pa_cons pe_non (pa_cons pe_bl (pa_cons pe_str pa_nil)))))) pa_nil))))
  (pss_cons (ps_if (pt_cmpR (op_neD hr.units) (pe_heard (sc := defScope s_law_strangers_right) HF (by rfl) XF B G TB hcode hmT huT hr (fun _ _ _ _ _ _ _ hr2 => (pe_mt TC.cl M_do (hr2.mono (by decide)) (passE (takes_of rfl rfl rfl rfl)) (pv 2) (pa_cons pe_int (pa_cons (pv 6) pa_nil))))) (pe_tup (pa_cons pe_str (pa_cons (pe_callB (call_reprD G hr) (by rfl) B.repr (by decide +kernel) (pa_cons (pv 6) pa_nil)) pa_nil))) (nomark _)) (pss_one (ps_ret pe_bl)) pss_nil)
  (pss_cons (ps_set (i := 7) sc_law_strangers_right.nd rfl (Or.inr rfl) (pe_cal C_law_pick (hr.mono (by decide)) (by rfl) passL (pa_cons (pv 0) (pa_cons (pe_lst (pa_cons pe_non (pa_cons pe_int (pa_cons pe_int (pa_cons pe_str (pa_cons (pe_tup pa_nil) pa_nil)))))) pa_nil))))
  (pss_cons (ps_if (pt_cmpR (op_neD hr.units) (pe_heard (sc := defScope s_law_strangers_right) HF (by rfl) XF B G TB hcode hmT huT hr (fun _ _ _ _ _ _ _ hr2 => (pe_mtK TC.cl KM_meet_whole (hr2.mono (by decide)) (passE (takes_of rfl rfl rfl rfl)) (pv 2) (pk_cons (pv 7) pk_nil)))) (pe_tup (pa_cons pe_str (pa_cons (pe_callB (call_reprD G hr) (by rfl) B.repr (by decide +kernel) (pa_cons (pv 7) pa_nil)) pa_nil))) (nomark _)) (pss_one (ps_ret pe_bl)) pss_nil)
  (C8.pss_cut (ps_if (PW.pt (pw_and (pt_cmpR op_lt (pv 3) pe_int (nomark _)) (pw_and1 (pt_cmpR (op_neD hr.units) (pe_heard (sc := defScope s_law_strangers_right) HF (by rfl) XF B G TB hcode hmT huT hr (fun _ _ _ _ _ _ _ hr2 => (pe_mtK TC.cl KM_meet_side_whole (hr2.mono (by decide)) (passE (takes_of rfl rfl rfl rfl)) (pv 2) (pk_cons pe_int (pk_cons pe_non pk_nil))))) (pe_tup (pa_cons pe_str (pa_cons pe_str pa_nil))) (nomark _))))) (pss_one (ps_ret pe_bl)) pss_nil)
  (pss_one (ps_ret (pe_cmpR op_eq (pe_callB (call_reprD G hr) (by rfl) B.repr (by decide +kernel) (pa_cons (pe_lst (pa_cons (pe_fld (pv 2) rfl) (pa_cons (pe_fld (pv 2) rfl) (pa_cons (pe_fld (pv 2) rfl) (pa_cons (pe_fld (pv 2) rfl) pa_nil))))) pa_nil)) (pv 4) (nomark _))))))))))))), ?_⟩
  have hA0 := hA
  obtain ⟨dx, a, bb, cc, d, x1, x2, x3, x4, x5⟩ := hA0
  have kv0 := KV'.nat sm.s0
  have kv1 := KV'.nat sm.s1
  have kc0 := KV'.nat sm.c0
  have kc1 := KV'.nat sm.c1
  have km0 := KV'.nat sm.m0
  have km1 := KV'.nat sm.m1
  have good : Good (.list (tw4 s)) 2 92 := (GoodAll.cons (good2 (k := 0) kv0 kv1) (GoodAll.cons (good2 kc0 kc1) (GoodAll.cons (good2 km0 km1) (GoodAll.cons (good2 sm.k0 sm.k1) (GoodAll.nil (w := 0)))))).lst
  have tell : ∀ {H' : Hp}, StayN b H H' → ∀ L, H' L = none → Dp K (upd H' L (.lst [.ref a, .ref bb, .ref cc, .ref d])) (.ref L) (.list (tw4 s)) := fun {H'} sN L nL => by
    have t6 : Same H' (upd H' L (.lst [.ref a, .ref bb, .ref cc, .ref d])) := Same.new nL
    exact .lst (SqL.of upd_same) (.cons (dp2 (t6 _ _ (sN.tup hb x2)) kv0 kv1) (.cons (dp2 (t6 _ _ (sN.tup hb x3)) kc0 kc1) (.cons (dp2 (t6 _ _ (sN.tup hb x4)) km0 km1) (.cons (dp2 (t6 _ _ (sN.tup hb x5)) sm.k0 sm.k1) .nil))))
  -- before
  refine ⟨_, rfl, tw, CT, dx, _, _, rfl, x1, TC.cl, TC.states, rfl, ?_⟩
  refine ⟨_, rfl, tw, CT, dx, _, _, rfl, x1, TC.cl, TC.copies, rfl, ?_⟩
  refine ⟨_, rfl, tw, CT, dx, _, _, rfl, x1, TC.cl, TC.marks, rfl, ?_⟩
  refine ⟨_, rfl, tw, CT, dx, _, _, rfl, x1, TC.cl, TC.kept, rfl, by show 4 ≤ sizeLine; decide, fun L nL => ?_⟩
  refine ⟨.ref L, _, rfl, tell (StayN.refl b H) L nL, good.sh, good.nd, Nat.le_trans good.dp (by decide), good.fits (by decide), ?_⟩
  obtain ⟨H1, e1⟩ : ∃ H1, H1 = upd H L (.lst [.ref a, .ref bb, .ref cc, .ref d]) := ⟨_, rfl⟩
  rw [← e1]
  have s1 : Same H H1 := by rw [e1]; exact Same.new nL
  have N1 : StayN b H H1 := .same s1
  have hb1 := hb.same s1
  have hT1 := hT.same s1
  clear e1 nL s1
  -- a side
  refine ⟨_, rfl, _, _, rfl, rfl, by show 5 ≤ sizeLine; decide, fun l nl => ?_⟩
  have sl : Same H1 (upd H1 l (.lst [.int 2, .int (0 - 1), .non, .bl true, .str "0"])) := Same.new nl
  refine ⟨b, l, _, rfl, hb1.same sl, upd_same, Ne.symm (hb1.ne nl), by show 0 < 5; decide, by show 5 ≤ 1000; decide, fun H2 i v hv s2 hb2 => ?_⟩
  have N2 : StayN b H H2 := (N1.trans (.same sl)).trans (.but s2)
  have hT2 := (hT1.same sl).but (hb1.same sl) s2
  obtain ⟨pd, od, bad⟩ : ∃ pd, OddAt K b H2 v pd ∧ sideOk v = false := by
    have := List.mem_of_getElem? hv
    simp only [List.mem_cons, List.not_mem_nil, or_false] at this
    rcases this with rfl | rfl | rfl | rfl | rfl
    · exact ⟨_, odd_nat (x := 2) (by decide), rfl⟩
    · exact ⟨_, odd_m1, rfl⟩
    · exact ⟨_, odd_non, rfl⟩
    · exact ⟨_, odd_bl, rfl⟩
    · exact ⟨_, odd_str good_strs.1 (by decide +kernel), rfl⟩
  clear hv sl nl s2 hb1 hT1 N1
  -- do at that side
  have hA2 := hA.stay hb N2
  have hM2 := hM.stay hb N2
  refine ⟨hT2, fun H3 e3 hT3 Q' => ?_⟩
  have N3 := N2.trans (.ext e3)
  have hb3 := hb2.ext e3
  have od3 := od.up (.ext e3)
  clear hA2 hM2 hT2
  have hA3 := hA.stay hb N3
  have hM3 := hM.stay hb N3
  refine ⟨_, rfl, tw, dx, _, rfl, N3.ins hb x1, rfl, _, rfl, tw, m, v, .non, fi, vi nu, .bl true, s, T, n, rfl, hA3, hM3, l0, l1, (od3 _ (.refl b _)).1, .inl ⟨bad, fun x hx => ?_⟩⟩
  refine hw_at hx (fun H' s' => (od3 _ (.same s')).2) fun H4 p s4 hp => ?_
  have N4 := N3.trans (.same s4)
  have hb4 := hb3.same s4
  have hT4 := hT3.same s4
  have od4 := od3.up (.same s4)
  have r4 := (od4 _ (.refl b _)).2
  refine ⟨_, rfl, v, pd, rfl, r4.dp, r4.sh, r4.nd, r4.dk, r4.sz, by show 2 ≤ sizeLine; decide, fun p2 np2 => ?_⟩
  have s5 : Same H4 (upd H4 p2 (.tup [.str "refused", .str pd.shown])) := Same.new np2
  refine ⟨_, _, dp_s2 (s5 _ _ hp), dp_s2 upd_same, sh_s2 (by decide +kernel) r4.so, sh_s2 (by decide +kernel) r4.so, ?_⟩
  rw [SeqAt.eqv_refl _ (cl_s2 (by decide +kernel) r4.so)]
  refine ⟨_, rfl, iteF ?_⟩
  obtain ⟨H2, e2⟩ : ∃ H2, H2 = upd H4 p2 (.tup [.str "refused", .str pd.shown]) := ⟨_, rfl⟩
  rw [← e2] at s5 ⊢
  have N2 := N4.trans (.same s5)
  have hb2 := hb4.same s5
  have hT2 := hT4.same s5
  have od := od4.up (.same s5)
  clear e2 hp np2 s5 s4 N4 hb4 hT4 od4 r4 hA3 hM3 od3 hb3 hT3 N3
  -- meet at that side
  refine ⟨hT2, fun H3 e3 hT3 Q' => ?_⟩
  have N3 := N2.trans (.ext e3)
  have hb3 := hb2.ext e3
  have od3 := od.up (.ext e3)
  have hA3 := hA.stay hb N3
  have hM3 := hM.stay hb N3
  clear e3 hT2 N2 hb2 od
  refine ⟨_, rfl, tw, dx, _, rfl, N3.ins hb x1, rfl, _, rfl, rfl, tw, m, v, .non, fi, nu, s, T, n, rfl, hA3, hM3, l0, l1, hn, (od3 _ (.refl b _)).1, .inl ⟨bad, fun x hx => ?_⟩⟩
  refine hw_at hx (fun H' s' => (od3 _ (.same s')).2) fun H4 p s4 hp => ?_
  have N4 := N3.trans (.same s4)
  have hb4 := hb3.same s4
  have hT4 := hT3.same s4
  have od4 := od3.up (.same s4)
  have r4 := (od4 _ (.refl b _)).2
  refine ⟨_, rfl, v, pd, rfl, r4.dp, r4.sh, r4.nd, r4.dk, r4.sz, by show 2 ≤ sizeLine; decide, fun p2 np2 => ?_⟩
  have s5 : Same H4 (upd H4 p2 (.tup [.str "refused", .str pd.shown])) := Same.new np2
  refine ⟨_, _, dp_s2 (s5 _ _ hp), dp_s2 upd_same, sh_s2 (by decide +kernel) r4.so, sh_s2 (by decide +kernel) r4.so, ?_⟩
  rw [SeqAt.eqv_refl _ (cl_s2 (by decide +kernel) r4.so)]
  refine ⟨_, rfl, iteF ?_⟩
  obtain ⟨H2, e2⟩ : ∃ H2, H2 = upd H4 p2 (.tup [.str "refused", .str pd.shown]) := ⟨_, rfl⟩
  rw [← e2] at s5 ⊢
  have N2 := N4.trans (.same s5)
  have hb2 := hb4.same s5
  have hT2 := hT4.same s5
  clear e2 hp np2 s5 s4 N4 hb4 hT4 od4 r4 hA3 hM3 od3 hb3 hT3 N3
  clear bad
  -- a deed
  obtain ⟨t, dxm, as, m1, m2, m3, hTab⟩ := hM
  have hM : MachOk CM H m T n := ⟨t, dxm, as, m1, m2, m3, hTab⟩
  refine ⟨_, rfl, _, rfl, m, CM, dxm, _, _, rfl, N2.ins hb m1, M.cl, M.deeds, rfl, _, _, rfl, rfl, by show 5 ≤ sizeLine; decide, fun l nl => ?_⟩
  have sl : Same H2 (upd H2 l (.lst [vi T.length, .int (0 - 1), .non, .bl true, .str "0"])) := Same.new nl
  refine ⟨b, l, _, rfl, hb2.same sl, upd_same, Ne.symm (hb2.ne nl), by show 0 < 5; decide, by show 5 ≤ 1000; decide, fun H3 i2 v2 hv s2 hb3 => ?_⟩
  have N3 : StayN b H H3 := (N2.trans (.same sl)).trans (.but s2)
  have hT3 := (hT2.same sl).but (hb2.same sl) s2
  have hd8 := hTab.d8
  obtain ⟨pd2, od2, bad⟩ : ∃ pd, OddAt K b H3 v2 pd ∧ isBel T.length v2 = false := by
    have := List.mem_of_getElem? hv
    simp only [List.mem_cons, List.not_mem_nil, or_false] at this
    rcases this with rfl | rfl | rfl | rfl | rfl
    · refine ⟨_, odd_nat (x := T.length) (by omega), ?_⟩
      show (decide ((0 : Int) ≤ T.length) && decide ((T.length : Int) < T.length)) = false
      rw [decide_eq_false (show ¬ (T.length : Int) < T.length by omega), Bool.and_false]
    · exact ⟨_, odd_m1, rfl⟩
    · exact ⟨_, odd_non, rfl⟩
    · exact ⟨_, odd_bl, rfl⟩
    · exact ⟨_, odd_str good_strs.1 (by decide +kernel), rfl⟩
  clear hv sl nl s2 hb2 hT2 N2
  -- it is none
  refine ⟨hT3, fun H4 e4 hT4 Q' => ?_⟩
  have N4 := N3.trans (.ext e4)
  have hb4 := hb3.ext e4
  have od4 := od2.up (.ext e4)
  clear e4 hT3 N3 hb3 od2
  refine ⟨_, rfl, tw, dx, _, rfl, N4.ins hb x1, rfl, _, rfl, tw, m, vi 1, v2, fi, vi nu, .bl true, s, T, n, rfl, hA.stay hb N4, hM.stay hb N4, l0, l1, .int _, .inr ⟨1, Nat.le_refl 1, rfl, (od4 _ (.refl b _)).1, .inl ⟨bad, fun x hx => ?_⟩⟩⟩
  refine hw_deed hx (fun H' s' => (od4 _ (.same s')).2) fun H5 p s5 hp => ?_
  have N5 := N4.trans (.same s5)
  have hb5 := hb4.same s5
  have hT5 := hT4.same s5
  have r5 := (od4 _ (.same s5)).2
  refine ⟨_, rfl, v2, pd2, rfl, r5.dp, r5.sh, r5.nd, r5.dk, r5.sz, by show 2 ≤ sizeLine; decide, fun p2 np2 => ?_⟩
  have s6 : Same H5 (upd H5 p2 (.tup [.str "deed", .str pd2.shown])) := Same.new np2
  refine ⟨_, _, dp_s2 (s6 _ _ hp), dp_s2 upd_same, sh_s2 (by decide +kernel) r5.so, sh_s2 (by decide +kernel) r5.so, ?_⟩
  rw [SeqAt.eqv_refl _ (cl_s2 (by decide +kernel) r5.so)]
  refine ⟨_, rfl, iteF ?_⟩
  have N6 := N5.trans (.same s6)
  have hb6 := hb5.same s6
  have hT6 := hT5.same s6
  obtain ⟨H6, e6⟩ : ∃ H6, H6 = upd H5 p2 (.tup [.str "deed", .str pd2.shown]) := ⟨_, rfl⟩
  rw [← e6] at N6 hb6 hT6 ⊢
  clear e6 s6 np2 hp N5 hb5 hT5 r5 s5 N4 hb4 hT4 od4 bad
  -- whole
  refine ⟨_, rfl, by show 0 ≤ sizeLine; decide, fun tq ntq => ⟨by show 5 ≤ sizeLine; decide, fun l nl => ?_⟩⟩
  have st : Same H6 (upd H6 tq (.tup [])) := Same.new ntq
  have sl : Same (upd H6 tq (.tup [])) (upd (upd H6 tq (.tup [])) l (.lst [.non, .int 0, .int 1, .str "True", .ref tq])) := Same.new nl
  refine ⟨b, l, _, rfl, hb6.same (st.trans sl), upd_same, Ne.symm ((hb6.same st).ne nl), by show 0 < 5; decide, by show 5 ≤ 1000; decide, fun H2 i3 v3 hv s2 hb2 => ?_⟩
  have N2 : StayN b H H2 := (N6.trans (.same (st.trans sl))).trans (.but s2)
  have hT2 := (hT6.same (st.trans sl)).but (hb6.same (st.trans sl)) s2
  have htq : H2 tq = some (.tup []) := s2 _ _ ((hb6.same (st.trans sl)).tup (sl _ _ upd_same)) (sl _ _ upd_same)
  obtain ⟨pd3, od3, bad⟩ : ∃ pd, OddAt K b H2 v3 pd ∧ isB v3 = false := by
    have := List.mem_of_getElem? hv
    simp only [List.mem_cons, List.not_mem_nil, or_false] at this
    rcases this with rfl | rfl | rfl | rfl | rfl
    · exact ⟨_, odd_non, rfl⟩
    · exact ⟨_, odd_nat (x := 0) (by decide), rfl⟩
    · exact ⟨_, odd_nat (x := 1) (by decide), rfl⟩
    · exact ⟨_, odd_str good_strs.2.2 (by decide +kernel), rfl⟩
    · exact ⟨_, odd_tup hb2 htq, rfl⟩
  clear hv sl nl s2 htq ntq st hb6 hT6 N6
  refine ⟨hT2, fun H4 e4 hT4 Q' => ?_⟩
  have N4 := N2.trans (.ext e4)
  have hb4 := hb2.ext e4
  have od4 := od3.up (.ext e4)
  clear e4 hT2 N2 hb2 od3
  refine ⟨_, rfl, tw, dx, _, rfl, N4.ins hb x1, rfl, _, rfl, rfl, tw, m, vi 0, v3, fi, nu, s, T, n, rfl, hA.stay hb N4, hM.stay hb N4, l0, l1, hn, .int _, .inr ⟨0, Nat.zero_le 1, rfl, .inr ⟨.inl rfl, .inl ⟨bad, (od4 _ (.refl b _)).1, fun x hx => ?_⟩⟩⟩⟩
  refine hw_at hx (fun H' s' => (od4 _ (.same s')).2) fun H5 p s5 hp => ?_
  have N5 := N4.trans (.same s5)
  have hb5 := hb4.same s5
  have hT5 := hT4.same s5
  have r5 := (od4 _ (.same s5)).2
  refine ⟨_, rfl, v3, pd3, rfl, r5.dp, r5.sh, r5.nd, r5.dk, r5.sz, by show 2 ≤ sizeLine; decide, fun p2 np2 => ?_⟩
  have s6 : Same H5 (upd H5 p2 (.tup [.str "refused", .str pd3.shown])) := Same.new np2
  refine ⟨_, _, dp_s2 (s6 _ _ hp), dp_s2 upd_same, sh_s2 (by decide +kernel) r5.so, sh_s2 (by decide +kernel) r5.so, ?_⟩
  rw [SeqAt.eqv_refl _ (cl_s2 (by decide +kernel) r5.so)]
  refine ⟨_, rfl, iteF ?_⟩
  have N6 := N5.trans (.same s6)
  have hb6 := hb5.same s6
  have hT6 := hT5.same s6
  obtain ⟨H6, e6⟩ : ∃ H6, H6 = upd H5 p2 (.tup [.str "refused", .str pd3.shown]) := ⟨_, rfl⟩
  rw [← e6] at N6 hb6 hT6 ⊢
  clear e6 s6 np2 hp N5 hb5 hT5 r5 s5 N4 hb4 hT4 od4 bad
  -- side 1 with two numbers
  refine ⟨fun σ H' => σ = [some (.ref b), some (.ref m), some (.ref tw), some (vi nu), some (.str (PyData.list (tw4 s)).shown), some v, some v2, some v3] ∧ StayN b H H' ∧ BoxAt H' b ∧ Tabs TT H', ?_, ?_⟩
  · refine ⟨_, rfl, _, _, rfl, rfl, _, rfl, ?_⟩
    by_cases h2 : nu = 2
    · subst h2
      refine iteD (by decide) ?_
      refine ⟨hT6, fun H4 e4 hT4 Q' => ?_⟩
      have N4 := N6.trans (.ext e4)
      have hb4 := hb6.ext e4
      refine ⟨_, rfl, tw, dx, _, rfl, N4.ins hb x1, rfl, rfl, tw, m, vi 1, .non, fi, 2, s, T, n, rfl, hA.stay hb N4, hM.stay hb N4, l0, l1, hn, .int _, .inr ⟨1, Nat.le_refl 1, rfl, .inl ⟨rfl, rfl, fun x hx => ?_⟩⟩⟩
      refine hw_at hx (fun H' s' => ((odd_nat (K := K) (b := b) (H := H4) (x := 1) (by decide)) _ (.same s')).2) fun H5 p s5 hp => ?_
      have N5 := N4.trans (.same s5)
      have hb5 := hb4.same s5
      have hT5 := hT4.same s5
      refine ⟨by show 2 ≤ sizeLine; decide, fun p2 np2 => ?_⟩
      have s6 : Same H5 (upd H5 p2 (.tup [.str "refused", .str "1"])) := Same.new np2
      have e1 : (PyData.int ((1 : Nat) : Int)).shown = "1" := by decide +kernel
      rw [e1] at hp
      refine ⟨_, _, dp_s2 (s6 _ _ hp), dp_s2 upd_same, sh_s2 (by decide +kernel) (by decide +kernel), sh_s2 (by decide +kernel) (by decide +kernel), ?_⟩
      rw [SeqAt.eqv_refl _ (cl_s2 (by decide +kernel) (by decide +kernel))]
      exact ⟨_, rfl, iteF ⟨rfl, N5.trans (.same s6), hb5.same s6, hT5.same s6⟩⟩
    · refine iteDn (by omega) (iteF ⟨rfl, N6, hb6, hT6⟩)
  rintro σ H7 ⟨rfl, N7, hb7, hT7⟩
  -- as before
  have y1 := N7.ins hb x1
  refine ⟨_, rfl, tw, CT, dx, _, _, rfl, y1, TC.cl, TC.states, rfl, ?_⟩
  refine ⟨_, rfl, tw, CT, dx, _, _, rfl, y1, TC.cl, TC.copies, rfl, ?_⟩
  refine ⟨_, rfl, tw, CT, dx, _, _, rfl, y1, TC.cl, TC.marks, rfl, ?_⟩
  refine ⟨_, rfl, tw, CT, dx, _, _, rfl, y1, TC.cl, TC.kept, rfl, by show 4 ≤ sizeLine; decide, fun L nL => ?_⟩
  refine ⟨.ref L, _, rfl, tell N7 L nL, good.sh, good.nd, Nat.le_trans good.dp (by decide), good.fits (by decide), ?_⟩
  have s8 : Same H7 (upd H7 L (.lst [.ref a, .ref bb, .ref cc, .ref d])) := Same.new nL
  refine ⟨_, rfl, rfl, ?_⟩
  rw [decide_eq_true (show V.str _ = V.str _ from rfl)]
  exact q _ (N7.trans (.same s8)) (hb7.same s8) (hT7.same s8)
end
end K35
set_option maxHeartbeats 4000000
/-! The law's _law_made_right. -/
namespace K35
open PySem PySem.Spec PyProof.Rows L2 LamX
def crossT : List (List Nat) := [[1, 2, 2], [0, 0, 0]]
theorem cross_tab : TabOk crossT 3 := ⟨by decide, by decide, by decide, by decide, by decide, by decide⟩
theorem cross_cross : Cross crossT 0 := ⟨rfl, rfl, by decide⟩
def dU : PyData := .tuple [.str "uncommuting", .int ((0 : Nat) : Int), .int ((0 : Nat) : Int), .int ((1 : Nat) : Int)]
theorem cl_u : dU.canLay0 = true := by decide +kernel
theorem sh_u : SeqAt.shaped dU = true := by decide +kernel
theorem dp_u {K : PySem.W.Frag} {H : Hp} {p : Addr} (h : H p = some (.tup [.str "uncommuting", vi 0, vi 0, vi 1])) : Dp K H (.ref p) dU := .tup (SqT.of h) (.cons (.str _) (.cons (.int _) (.cons (.int _) (.cons (.int _) .nil))))
theorem same_ins {H : Hp} {x dx C : Addr} (nx : H x = none) (ndx : H dx = none) (hne : dx ≠ x) : Same H (upd (upd H dx (.own x)) x (.ins C dx [])) := (Same.new ndx).trans (Same.new ((upd_ne (Ne.symm hne)).trans nx))
section
variable {w : World} {K : PySem.W.Frag} {mg : Str → Option Value} {base : Heap}
def spMade (CM : Addr) (TT : List (Addr × Str)) : Sp := fun vs H Q _ => ∃ (b m : Addr) (T : List (List Nat)) (n f : Nat), vs = [.ref b, .ref m, vi f] ∧ BoxAt H b ∧ MachOk CM H m T n ∧ f < n ∧ Com T f ∧ Tabs TT H ∧ ∀ H', Q (.bl true) H'
abbrev N_law_made_right : List Str := ["_law_box_here", "_law_machine_here", "_law_first", "_law_odd", "_law_bad", "_law_none", "_law_cross"]
theorem sc_law_made_right : FnScope N_law_made_right ["_law_box_here", "_law_machine_here", "_law_first"] (defScope s_law_made_right) := ⟨rfl, rfl, rfl, by decide +kernel, rfl, by decide +kernel, by decide +kernel⟩
theorem ok_law_made_right {CT CM CS CD CU CR : Addr} {TT : List (Addr × Str)} {f : Addr} {fd : FuncData} (F : Fd K "_law_made_right" "_law_made_right" s_law_made_right f fd) (B : Bu mg) (TC : TF K CT) (M : MF K CM) (XF : XM K mg CS CD CU CR) (HF : HdF K mg) (LF : LamF K base mg f "_law_made_right.<locals>.<lambda>" TT)
    (C_law_pick : Cal Pg w K mg base 2 "_law_pick" ["_law_box_here", "_law_some"] (spPick K)) (MK_Machine : MakP Pg w K mg base 6 "Machine" CM ["self", "tables"] (spMachInit CM))
    (MK_Twin_numbers : MakK Pg w K mg base 8 "Twin" CT ["self", "machine", "first", "numbers", "keeps"] (spTwinInit K CT CM CS CU CR) 2 ["numbers"] (fun vs zs => vs ++ zs ++ [.bl true]))
    (MK_Twin_numbers_keeps : MakK Pg w K mg base 8 "Twin" CT ["self", "machine", "first", "numbers", "keeps"] (spTwinInit K CT CM CS CU CR) 2 ["numbers", "keeps"] (fun vs zs => vs ++ zs))
    (MK_Twin_keeps : MakK Pg w K mg base 8 "Twin" CT ["self", "machine", "first", "numbers", "keeps"] (spTwinInit K CT CM CS CU CR) 2 ["keeps"] (fun vs zs => vs ++ [.int 2] ++ zs)) :
    FnG Pg w K mg base (L2.CX Pg w) 12 f fd ["_law_box_here", "_law_machine_here", "_law_first"] (spMade CM TT) := by
  refine fnG_of F sc_law_made_right (fun vs H Q E ⟨b, m, T, n, f, ev, _⟩ => by rw [ev] <;> rfl) fun cdv A outer s0 H vs Q E hg hr hcd hlk ⟨b, m, T, n, f0, ev, hb, hM, hf, hcom, hT, q⟩ => ?_
  subst ev
  have G : (A.deeper (envOfC "_law_made_right" (defScope s_law_made_right) s0.heap.objs.size f cdv)).guards = some [] := hg
  obtain ⟨c, P, hc, TB, hmT, huT⟩ := LF.ex
  obtain ⟨oc, od, osl, lk, ecd⟩ := hlk
  have hcode : cdv = .ref c := by rw [← ecd]; exact hc _ _ _ _ lk
  refine ⟨_, (pss_cons (ps_set (i := 3) sc_law_made_right.nd rfl (Or.inr rfl) (pe_cal C_law_pick (hr.mono (by decide)) (by rfl) passL (pa_cons (pv 0) (pa_cons (pe_lst (pa_cons (pe_fld (pv 1) rfl) (pa_cons (pe_op op_sub pe_int pe_int) (pa_cons pe_non (pa_cons pe_bl (pa_cons pe_str pa_nil)))))) pa_nil))))
  (pss_cons (ps_if (pt_cmpR (op_neD hr.units) (pe_heard (sc := defScope s_law_made_right) HF (by rfl) XF B G TB hcode hmT huT hr (fun _ _ _ _ _ _ _ hr2 => (pe_mkK MK_Twin_numbers (hr2.mono (by decide)) (by rfl) (passE (takes_of rfl rfl rfl rfl)) (pa_cons (pv 1) (pa_cons (pv 3) pa_nil)) (pk_cons pe_int pk_nil)))) (pe_tup (pa_cons pe_str (pa_cons (pe_callB (call_reprD G hr) (by rfl) B.repr (by decide +kernel) (pa_cons (pv 3) pa_nil)) pa_nil))) (nomark _)) (pss_one (ps_ret pe_bl)) pss_nil)
  (pss_cons (ps_set (i := 4) sc_law_made_right.nd rfl (Or.inr rfl) (pe_cal C_law_pick (hr.mono (by decide)) (by rfl) passL (pa_cons (pv 0) (pa_cons (pe_lst (pa_cons pe_int (pa_cons pe_int (pa_cons pe_non (pa_cons pe_bl (pa_cons pe_str pa_nil)))))) pa_nil))))
  (pss_cons (ps_if (pt_cmpR (op_neD hr.units) (pe_heard (sc := defScope s_law_made_right) HF (by rfl) XF B G TB hcode hmT huT hr (fun _ _ _ _ _ _ _ hr2 => (pe_mkK MK_Twin_numbers_keeps (hr2.mono (by decide)) (by rfl) (passE (takes_of rfl rfl rfl rfl)) (pa_cons (pv 1) (pa_cons (pv 2) pa_nil)) (pk_cons (pv 4) (pk_cons pe_int pk_nil))))) (pe_tup (pa_cons pe_str (pa_cons (pe_callB (call_reprD G hr) (by rfl) B.repr (by decide +kernel) (pa_cons (pv 4) pa_nil)) pa_nil))) (nomark _)) (pss_one (ps_ret pe_bl)) pss_nil)
  (pss_cons (ps_set (i := 5) sc_law_made_right.nd rfl (Or.inr rfl) (pe_cal C_law_pick (hr.mono (by decide)) (by rfl) passL (pa_cons (pv 0) (pa_cons (pe_lst (pa_cons pe_non (pa_cons pe_int (pa_cons pe_int (pa_cons pe_str pa_nil))))) pa_nil))))
  (pss_cons (ps_if (pt_cmpR (op_neD hr.units) (pe_heard (sc := defScope s_law_made_right) HF (by rfl) XF B G TB hcode hmT huT hr (fun _ _ _ _ _ _ _ hr2 => (pe_mkK MK_Twin_keeps (hr2.mono (by decide)) (by rfl) (passE (takes_of rfl rfl rfl rfl)) (pa_cons (pv 1) (pa_cons (pv 2) pa_nil)) (pk_cons (pv 5) pk_nil)))) (pe_tup (pa_cons pe_str (pa_cons (pe_callB (call_reprD G hr) (by rfl) B.repr (by decide +kernel) (pa_cons (pv 5) pa_nil)) pa_nil))) (nomark _)) (pss_one (ps_ret pe_bl)) pss_nil)
  (pss_cons (ps_set (i := 6) sc_law_made_right.nd rfl (Or.inr rfl) (pe_mkP MK_Machine (hr.mono (by decide)) (by rfl) passL (pa_cons (pe_lst (pa_cons (pe_tup (pa_cons pe_int (pa_cons pe_int (pa_cons pe_int pa_nil)))) (pa_cons (pe_tup (pa_cons pe_int (pa_cons pe_int (pa_cons pe_int pa_nil)))) pa_nil))) pa_nil)))
  (pss_one (ps_ret (pe_cmpR (op_eqD hr.units) (pe_heard (sc := defScope s_law_made_right) HF (by rfl) XF B G TB hcode hmT huT hr (fun _ _ _ _ _ _ _ hr2 => (pe_mkK MK_Twin_numbers (hr2.mono (by decide)) (by rfl) (passE (takes_of rfl rfl rfl rfl)) (pa_cons (pv 6) (pa_cons pe_int pa_nil)) (pk_cons pe_int pk_nil)))) (pe_tup (pa_cons pe_str (pa_cons pe_int (pa_cons pe_int (pa_cons pe_int pa_nil))))) (nomark _))))))))))), ?_⟩
  have hM0 := hM
  obtain ⟨t, dxm, as, m1, m2, m3, hTab⟩ := hM0
  have hn12 := hTab.n12
  -- a state
  refine ⟨_, rfl, _, rfl, m, CM, dxm, _, _, rfl, m1, M.cl, M.states, rfl, _, _, rfl, rfl, by show 5 ≤ sizeLine; decide, fun l nl => ?_⟩
  have sl : Same H (upd H l (.lst [vi n, .int (0 - 1), .non, .bl true, .str "0"])) := Same.new nl
  refine ⟨b, l, _, rfl, hb.same sl, upd_same, Ne.symm (hb.ne nl), by show 0 < 5; decide, by show 5 ≤ 1000; decide, fun H2 i v hv s2 hb2 => ?_⟩
  have N2 : StayN b H H2 := (StayN.same sl).trans (.but s2)
  have hT2 := (hT.same sl).but (hb.same sl) s2
  obtain ⟨pd, od2, bad⟩ : ∃ pd, OddAt K b H2 v pd ∧ isBel n v = false := by
    have := List.mem_of_getElem? hv
    simp only [List.mem_cons, List.not_mem_nil, or_false] at this
    rcases this with rfl | rfl | rfl | rfl | rfl
    · refine ⟨_, odd_nat (x := n) (by omega), ?_⟩
      show (decide ((0 : Int) ≤ n) && decide ((n : Int) < n)) = false
      rw [decide_eq_false (show ¬ (n : Int) < n by omega), Bool.and_false]
    · exact ⟨_, odd_m1, rfl⟩
    · exact ⟨_, odd_non, rfl⟩
    · exact ⟨_, odd_bl, rfl⟩
    · exact ⟨_, odd_str good_strs.1 (by decide +kernel), rfl⟩
  clear hv sl nl s2
  refine ⟨hT2, fun H4 e4 hT4 Q' => ?_⟩
  have N4 := N2.trans (.ext e4)
  have hb4 := hb2.ext e4
  have od4 := od2.up (.ext e4)
  clear e4 hT2 N2 hb2 od2
  refine ⟨_, rfl, _, rfl, rfl, rfl, fun x dx nx ndx hne => ?_⟩
  have sM : Same H4 (upd (upd H4 dx (.own x)) x (.ins CT dx [])) := same_ins nx ndx hne
  refine ⟨x, m, dx, v, .int 0, .bl true, T, n, rfl, upd_same, (hM.stay hb N4).same sM, (od4 _ (.same sM)).1, .inl ⟨bad, fun y hy => ?_⟩⟩
  refine hw_state hy (fun H' s' => (od4 _ (.same (sM.trans s'))).2) fun H5 p s5 hp => ?_
  have N5 := N4.trans (.same (sM.trans s5))
  have hb5 := hb4.same (sM.trans s5)
  have hT5 := hT4.same (sM.trans s5)
  have r5 := (od4 _ (.same (sM.trans s5))).2
  refine ⟨_, rfl, v, pd, rfl, r5.dp, r5.sh, r5.nd, r5.dk, r5.sz, by show 2 ≤ sizeLine; decide, fun p2 np2 => ?_⟩
  have s6 : Same H5 (upd H5 p2 (.tup [.str "state", .str pd.shown])) := Same.new np2
  refine ⟨_, _, dp_s2 (s6 _ _ hp), dp_s2 upd_same, sh_s2 (by decide +kernel) r5.so, sh_s2 (by decide +kernel) r5.so, ?_⟩
  rw [SeqAt.eqv_refl _ (cl_s2 (by decide +kernel) r5.so)]
  refine ⟨_, rfl, iteF ?_⟩
  have N6 := N5.trans (.same s6)
  have hb6 := hb5.same s6
  have hT6 := hT5.same s6
  obtain ⟨H6, e6⟩ : ∃ H6, H6 = upd H5 p2 (.tup [.str "state", .str pd.shown]) := ⟨_, rfl⟩
  rw [← e6] at N6 hb6 hT6 ⊢
  clear e6 s6 np2 hp N5 hb5 hT5 r5 s5 N4 hb4 hT4 od4 bad sM nx ndx hne hy
  -- numbers
  refine ⟨_, rfl, by show 5 ≤ sizeLine; decide, fun l nl => ?_⟩
  have sl : Same H6 (upd H6 l (.lst [.int 0, .int 4, .non, .bl true, .str "2"])) := Same.new nl
  refine ⟨b, l, _, rfl, hb6.same sl, upd_same, Ne.symm (hb6.ne nl), by show 0 < 5; decide, by show 5 ≤ 1000; decide, fun H2 i2 v2 hv s2 hb2 => ?_⟩
  have N2 : StayN b H H2 := (N6.trans (.same sl)).trans (.but s2)
  have hT2 := (hT6.same sl).but (hb6.same sl) s2
  obtain ⟨pd2, od2, bad⟩ : ∃ pd, OddAt K b H2 v2 pd ∧ numOk v2 = false := by
    have := List.mem_of_getElem? hv
    simp only [List.mem_cons, List.not_mem_nil, or_false] at this
    rcases this with rfl | rfl | rfl | rfl | rfl
    · exact ⟨_, odd_nat (x := 0) (by decide), rfl⟩
    · exact ⟨_, odd_nat (x := 4) (by decide), rfl⟩
    · exact ⟨_, odd_non, rfl⟩
    · exact ⟨_, odd_bl, rfl⟩
    · exact ⟨_, odd_str good_strs.2.1 (by decide +kernel), rfl⟩
  clear hv sl nl s2 N6 hb6 hT6
  refine ⟨hT2, fun H4 e4 hT4 Q' => ?_⟩
  have N4 := N2.trans (.ext e4)
  have hb4 := hb2.ext e4
  have od4 := od2.up (.ext e4)
  clear e4 hT2 N2 hb2 od2
  refine ⟨_, rfl, _, rfl, _, rfl, rfl, rfl, fun x dx nx ndx hne => ?_⟩
  have sM : Same H4 (upd (upd H4 dx (.own x)) x (.ins CT dx [])) := same_ins nx ndx hne
  refine ⟨x, m, dx, vi f0, v2, .int 5, T, n, rfl, upd_same, (hM.stay hb N4).same sM, .int _, .inr ⟨f0, hf, rfl, .inr ⟨hcom, (od4 _ (.same sM)).1, .inl ⟨bad, fun H' y sy hy => ?_⟩⟩⟩⟩
  refine hw_at hy (fun H'' s' => (od4 _ (.same ((sM.trans sy).trans s'))).2) fun H5 p s5 hp => ?_
  have N5 := N4.trans (.same ((sM.trans sy).trans s5))
  have hb5 := hb4.same ((sM.trans sy).trans s5)
  have hT5 := hT4.same ((sM.trans sy).trans s5)
  have r5 := (od4 _ (.same ((sM.trans sy).trans s5))).2
  refine ⟨_, rfl, v2, pd2, rfl, r5.dp, r5.sh, r5.nd, r5.dk, r5.sz, by show 2 ≤ sizeLine; decide, fun p2 np2 => ?_⟩
  have s6 : Same H5 (upd H5 p2 (.tup [.str "refused", .str pd2.shown])) := Same.new np2
  refine ⟨_, _, dp_s2 (s6 _ _ hp), dp_s2 upd_same, sh_s2 (by decide +kernel) r5.so, sh_s2 (by decide +kernel) r5.so, ?_⟩
  rw [SeqAt.eqv_refl _ (cl_s2 (by decide +kernel) r5.so)]
  refine ⟨_, rfl, iteF ?_⟩
  have N6 := N5.trans (.same s6)
  have hb6 := hb5.same s6
  have hT6 := hT5.same s6
  obtain ⟨H6, e6⟩ : ∃ H6, H6 = upd H5 p2 (.tup [.str "refused", .str pd2.shown]) := ⟨_, rfl⟩
  rw [← e6] at N6 hb6 hT6 ⊢
  clear e6 s6 np2 hp N5 hb5 hT5 r5 s5 N4 hb4 hT4 od4 bad sM nx ndx hne hy sy
  -- keeps
  refine ⟨_, rfl, by show 4 ≤ sizeLine; decide, fun l nl => ?_⟩
  have sl : Same H6 (upd H6 l (.lst [.non, .int 0, .int 1, .str "True"])) := Same.new nl
  refine ⟨b, l, _, rfl, hb6.same sl, upd_same, Ne.symm (hb6.ne nl), by show 0 < 4; decide, by show 4 ≤ 1000; decide, fun H2 i3 v3 hv s2 hb2 => ?_⟩
  have N2 : StayN b H H2 := (N6.trans (.same sl)).trans (.but s2)
  have hT2 := (hT6.same sl).but (hb6.same sl) s2
  obtain ⟨pd3, od2, bad⟩ : ∃ pd, OddAt K b H2 v3 pd ∧ isB v3 = false := by
    have := List.mem_of_getElem? hv
    simp only [List.mem_cons, List.not_mem_nil, or_false] at this
    rcases this with rfl | rfl | rfl | rfl
    · exact ⟨_, odd_non, rfl⟩
    · exact ⟨_, odd_nat (x := 0) (by decide), rfl⟩
    · exact ⟨_, odd_nat (x := 1) (by decide), rfl⟩
    · exact ⟨_, odd_str good_strs.2.2 (by decide +kernel), rfl⟩
  clear hv sl nl s2 N6 hb6 hT6
  refine ⟨hT2, fun H4 e4 hT4 Q' => ?_⟩
  have N4 := N2.trans (.ext e4)
  have hb4 := hb2.ext e4
  have od4 := od2.up (.ext e4)
  clear e4 hT2 N2 hb2 od2
  refine ⟨_, rfl, _, rfl, _, rfl, rfl, rfl, fun x dx nx ndx hne => ?_⟩
  have sM : Same H4 (upd (upd H4 dx (.own x)) x (.ins CT dx [])) := same_ins nx ndx hne
  refine ⟨x, m, dx, vi f0, .int 2, v3, T, n, rfl, upd_same, (hM.stay hb N4).same sM, .int _, .inr ⟨f0, hf, rfl, .inr ⟨hcom, .int _, .inr ⟨rfl, (od4 _ (.same sM)).1, .inl ⟨bad, fun H' y sy hy => ?_⟩⟩⟩⟩⟩
  refine hw_at hy (fun H'' s' => (od4 _ (.same ((sM.trans sy).trans s'))).2) fun H5 p s5 hp => ?_
  have hT5 := hT4.same ((sM.trans sy).trans s5)
  have r5 := (od4 _ (.same ((sM.trans sy).trans s5))).2
  refine ⟨_, rfl, v3, pd3, rfl, r5.dp, r5.sh, r5.nd, r5.dk, r5.sz, by show 2 ≤ sizeLine; decide, fun p2 np2 => ?_⟩
  have s6 : Same H5 (upd H5 p2 (.tup [.str "refused", .str pd3.shown])) := Same.new np2
  refine ⟨_, _, dp_s2 (s6 _ _ hp), dp_s2 upd_same, sh_s2 (by decide +kernel) r5.so, sh_s2 (by decide +kernel) r5.so, ?_⟩
  rw [SeqAt.eqv_refl _ (cl_s2 (by decide +kernel) r5.so)]
  refine ⟨_, rfl, iteF ?_⟩
  have hT6 := hT5.same s6
  obtain ⟨H6, e6⟩ : ∃ H6, H6 = upd H5 p2 (.tup [.str "refused", .str pd3.shown]) := ⟨_, rfl⟩
  rw [← e6] at hT6 ⊢
  clear e6 s6 np2 hp hT5 r5 s5 N4 hb4 hT4 od4 bad sM nx ndx hne hy sy
  -- a machine whose deeds do not commute
  refine ⟨by show 3 ≤ sizeLine; decide, fun a1 na1 => ⟨by show 3 ≤ sizeLine; decide, fun a2 na2 => ⟨by show 2 ≤ sizeLine; decide, fun l nl => fun x dx nx ndx hne => ?_⟩⟩⟩
  have t1 : Same H6 (upd H6 a1 (.tup [.int 1, .int 2, .int 2])) := Same.new na1
  have t2 : Same (upd H6 a1 (.tup [.int 1, .int 2, .int 2])) (upd (upd H6 a1 (.tup [.int 1, .int 2, .int 2])) a2 (.tup [.int 0, .int 0, .int 0])) := Same.new na2
  have t3 : Same (upd (upd H6 a1 (.tup [.int 1, .int 2, .int 2])) a2 (.tup [.int 0, .int 0, .int 0])) (upd (upd (upd H6 a1 (.tup [.int 1, .int 2, .int 2])) a2 (.tup [.int 0, .int 0, .int 0])) l (.lst [.ref a1, .ref a2])) := Same.new nl
  have t4 := same_ins (C := CM) nx ndx hne
  have h1 := t4 _ _ (t3 _ _ (t2 _ _ (upd_same (H := H6) (a := a1) (o := .tup [.int 1, .int 2, .int 2]))))
  have h2 := t4 _ _ (t3 _ _ (upd_same (H := upd H6 a1 (.tup [.int 1, .int 2, .int 2])) (a := a2) (o := .tup [.int 0, .int 0, .int 0])))
  have rows : RowsAt _ [a1, a2] crossT := ⟨rfl, fun i a r e1 e2 => by
    match i, e1, e2 with
    | 0, e1, e2 =>
      cases e1
      cases e2
      exact h1
    | 1, e1, e2 =>
      cases e1
      cases e2
      exact h2
    | i + 2, e1, _ => simp at e1⟩
  refine ⟨x, l, dx, [a1, a2], crossT, 3, rfl, upd_same, t4 _ _ upd_same, rows, cross_tab, fun H7 tt sb nt htt hma => ⟨rfl, ?_⟩⟩
  have ax : ∀ {c : Addr} {xs : List V}, upd (upd (upd (upd (upd H6 a1 (.tup [.int 1, .int 2, .int 2])) a2 (.tup [.int 0, .int 0, .int 0])) l (.lst [.ref a1, .ref a2])) dx (.own x)) x (.ins CM dx []) c = some (.tup xs) → H7 c = some (.tup xs) := fun {c xs} e => sb _ _ (ne_of e upd_same (by intro z; cases z)) e
  have hX : MachOk CM H7 x crossT 3 := ⟨tt, dx, [a1, a2], hma, htt, rows.same fun c xs e => ax e, cross_tab⟩
  have hT7 : Tabs TT H7 := fun p hp => by
    obtain ⟨ps, g1, g2, g3⟩ := (hT6.same (((t1.trans t2).trans t3).trans t4)) p hp
    refine ⟨ps, sb _ _ (ne_of g1 upd_same (by intro z; cases z)) g1, g2, fun pos cv hc => ?_⟩
    obtain ⟨c, g4, g5⟩ := g3 pos cv hc
    exact ⟨c, g4, sb _ _ (ne_of g5 upd_same (by intro z; unfold CodeO at z; cases z)) g5⟩
  -- is told
  refine ⟨hT7, fun H4 e4 hT4 Q' => ?_⟩
  refine ⟨_, rfl, rfl, rfl, fun y dy ny ndy hne2 => ?_⟩
  have sM : Same H4 (upd (upd H4 dy (.own y)) y (.ins CT dy [])) := same_ins ny ndy hne2
  have hX4 : MachOk CM H4 x crossT 3 := hX.keep fun c o ho e => e4 c o e (fun ps z => by
    rcases ho with ⟨xs, ho⟩ | ho
    · rw [ho] at z
      cases z
    · rw [ho, show H7 x = _ from hma] at e
      rw [← Option.some.inj e] at z
      cases z)
  refine ⟨y, x, dy, vi 0, .int 0, .bl true, crossT, 3, rfl, upd_same, hX4.same sM, .int _, .inr ⟨0, by decide, rfl, .inl ⟨cross_cross, fun H' z sz hz => ?_⟩⟩⟩
  refine hw_unc hz fun H5 p s5 hp => ?_
  refine ⟨by show 4 ≤ sizeLine; decide, fun p2 np2 => ?_⟩
  refine ⟨dU, dU, dp_u ((Same.new np2) _ _ hp), dp_u upd_same, sh_u, sh_u, ?_⟩
  rw [SeqAt.eqv_refl _ cl_u]
  exact q _
end
end K35
set_option maxHeartbeats 4000000
/-! The law itself. -/
namespace K35
open PySem PySem.Spec PyProof.Rows L2 LamX
structure CalG (P : Program) (w : World) (K : PySem.W.Frag) (mg : Str → Option Value) (base : Heap) (k : Nat) (x : Str) (ps : List Str) (sp : Sp) : Prop where
  ex : ∃ (f : Addr) (fd : FuncData), mg x = some (.ref f) ∧ PySem.W.keepIn K (.ref f) = true ∧ L2.Binds K fd ps [] ∧ FnG P w K mg base (L2.CX P w) k f fd ps sp
theorem pe_calG {X : Cx} {k : Nat} {x : Str} {ps : List Str} {sp : Sp} {E : XK} {p pos : Pos} {e : Expr} {es : List Expr} {t : TA} (G : X.A.guards = some []) (C : CalG X.prog X.w X.K X.mg X.base k x ps sp) (hr : Room k X.A) (hg : Gl X x) (hx : Passes (L2.CX X.prog X.w) X E) (ha : PA X (e :: es) t)
    (hdb : (x == ("__debug__" : Str)) = false := by decide) (he : starEach (e :: es) X.env = (false, eval e X.env) :: starEach es X.env := by rfl) (hpl : (backTo pos (starEach es X.env)).any (·.1) = false := by rfl) :
    PE X (.Call (.Name x p) (e :: es) [] pos) (tCall sp [] E t) := by
  obtain ⟨f, fd, hm, hk, hb, F⟩ := C.ex
  exact pe_callG G F hr hg hm hk hb hx ha hdb he hpl
/-- THE RULE for a def that lets nothing out, guards known -/
theorem okGN {w : World} {K : PySem.W.Frag} {mg : Str → Option Value} {base : Heap} {x qual : Str} {st : Stmt} {f : Addr} {fd : FuncData} {N ps : List Str} {k : Nat} {sp : Sp} (F : Fd K x qual st f fd) (S : FnScope N ps (defScope st)) (len : ∀ vs H Q E, sp vs H Q E → vs.length = ps.length)
    (hbody : ∀ (cdv : Value) (A : Around) (outer : List Env) (s : Shared) (H : Hp) (vs : List V) (Q : VK) (E : XK), A.guards = some [] → Room k (A.deeper (envOfC qual (defScope st) s.heap.objs.size f cdv)) → sp vs H Q E →
      ∃ t, PSs (cxOf (L2.CX Pg w) Pg w K mg base N qual (defScope st) f cdv A outer s H E).nox (defBody st) t ∧ t { nx := fun _ H' => Q .non H', rt := Q } (start N vs) H) : FnG Pg w K mg base (L2.CX Pg w) (k + 1) f fd ps sp :=
  fnG_of F S len fun cdv A outer s H vs Q E hg hr _ _ hsp => let ⟨t, h1, h2⟩ := hbody cdv A outer s H vs Q E hg hr hsp; ⟨t, h1.nox, h2⟩
/-! ### what stands during the law's run -/
/-- the script: written, or tracked off the places L -/
def Scr (K : PySem.W.Frag) (H : Hp) (a : Addr) (xs : List V) (L : List Addr) : Prop := (∀ H', SqL K H' a xs) ∨ (a ∉ L ∧ Rd H a (.lst xs))
theorem Scr.sq {K : PySem.W.Frag} {H : Hp} {a : Addr} {xs : List V} {L : List Addr} (h : Scr K H a xs L) : SqL K H a xs := h.elim (fun h => h H) fun h => .inl h.2
theorem Scr.of {K : PySem.W.Frag} {H : Hp} {a : Addr} {xs : List V} (h : SqL K H a xs) : Scr K H a xs [] := by
  rcases h with h | h
  · exact .inr ⟨by simp, h⟩
  · exact .inl fun H' => .inr h
theorem Rd.some {H : Hp} {a : Addr} {u : HO} (h : Rd H a u) : ∃ o, H a = some o := by
  rcases h with h | ⟨o, h⟩
  · exact ⟨_, h⟩
  · exact ⟨_, h⟩
theorem Scr.add {K : PySem.W.Frag} {H : Hp} {a p : Addr} {xs : List V} {L : List Addr} (h : Scr K H a xs L) (hp : H p = none) : Scr K H a xs (p :: L) := by
  rcases h with h | ⟨h1, h2⟩
  · exact .inl h
  · obtain ⟨o, e⟩ := Rd.some h2
    exact .inr ⟨fun z => (List.mem_cons.mp z).elim (fun z => (ne_of_none e hp) z) h1, h2⟩
theorem Scr.mem {K : PySem.W.Frag} {H : Hp} {a : Addr} {xs : List V} {L L' : List Addr} (h : Scr K H a xs L) (hL : ∀ x ∈ L', x ∈ L) : Scr K H a xs L' := h.imp id fun ⟨h1, h2⟩ => ⟨fun z => h1 (hL _ z), h2⟩
/-- what is no list, no locked one, or off L -/
theorem Scr.keep {K : PySem.W.Frag} {H H' : Hp} {a : Addr} {xs : List V} {L : List Addr} (h : Scr K H a xs L) (k : ∀ u, a ∉ L → ((∃ ys, u = .lst ys) ∨ ∃ o ys, u = .frz o (.lst ys)) → H a = some u → H' a = some u) : Scr K H' a xs L := by
  rcases h with h | ⟨h1, h2⟩
  · exact .inl h
  · refine .inr ⟨h1, ?_⟩
    rcases h2 with h2 | ⟨o, h2⟩
    · exact .inl (k _ h1 (.inl ⟨_, rfl⟩) h2)
    · exact .inr ⟨o, k _ h1 (.inr ⟨_, _, rfl⟩) h2⟩
structure LS (K : PySem.W.Frag) (CT CM : Addr) (TT : List (Addr × Str)) (a0 : Addr) (xs : List V) (tb m tw : Addr) (as : List Addr) (T : List (List Nat)) (n f nu : Nat) (o a b c d e l0 l1 : Addr) (s s' : Tw) (h0 h1 : Hd) (H : Hp) : Prop where
  scr : Scr K H a0 xs [a, b, c, d, e]
  tabs : Tabs TT H
  htb : H tb = some (.lst (as.map V.ref))
  tbo : tb ∉ [a, b, c, d, e]
  rows : RowsAt H as T
  mach : MachOk CM H m T n
  htw : TwAt CT H tw m (vi f) (vi nu) (.bl true) s
  own : OwnA H o a b c d e l0 l1 nu s' h0 h1
section
variable {K : PySem.W.Frag} {CT CM : Addr} {TT : List (Addr × Str)} {a0 : Addr} {xs : List V} {tb m tw : Addr} {as : List Addr} {T : List (List Nat)} {n f nu : Nat} {o a b c d e l0 l1 m0 m1 : Addr} {s s' s2 : Tw} {h0 h1 g0 g1 : Hd} {H H' : Hp}
theorem TwAt.ins {keeps nums first : V} (h : TwAt CT H tw m first nums keeps s) : ∃ dx fs, H tw = some (.ins CT dx fs) := let ⟨dx, _, _, _, _, h, _⟩ := h; ⟨dx, _, h⟩
theorem MachOk.ins (h : MachOk CM H m T n) : ∃ dx fs, H m = some (.ins CM dx fs) := let ⟨_, dx, _, h, _⟩ := h; ⟨dx, _, h⟩
theorem OwnA.kinds {x : Addr} (h : OwnA H o a b c d e l0 l1 nu s' h0 h1) (hx : x ∈ [o, a, b, c, d, e, l0, l1]) : ∃ u, H x = some u ∧ ((∃ ys, u = .lst ys) ∨ ∃ kvs, u = .dK kvs) := by
  simp only [List.mem_cons, List.not_mem_nil, or_false] at hx
  rcases hx with rfl | rfl | rfl | rfl | rfl | rfl | rfl | rfl
  · exact ⟨_, h.ho, .inr ⟨_, rfl⟩⟩
  · exact ⟨_, h.ha, .inl ⟨_, rfl⟩⟩
  · exact ⟨_, h.hb, .inl ⟨_, rfl⟩⟩
  · exact ⟨_, h.hc, .inl ⟨_, rfl⟩⟩
  · exact ⟨_, h.hd, .inl ⟨_, rfl⟩⟩
  · exact ⟨_, h.he, .inl ⟨_, rfl⟩⟩
  · exact ⟨_, h.hl0, .inr ⟨_, rfl⟩⟩
  · exact ⟨_, h.hl1, .inr ⟨_, rfl⟩⟩
/-- Python's tables stay -/
theorem tabs_keep (h : Tabs TT H) (k : ∀ x u, ((∃ ps, u = .tbl ps) ∨ ∃ q, u = CodeO x q) → H x = some u → H' x = some u) : Tabs TT H' := fun p hp => by
  obtain ⟨ps, h1, h2, h3⟩ := h p hp
  refine ⟨ps, k _ _ (.inl ⟨_, rfl⟩) h1, h2, fun pos cv hc => ?_⟩
  obtain ⟨c, e1, e2⟩ := h3 pos cv hc
  exact ⟨c, e1, k _ _ (.inr ⟨_, rfl⟩) e2⟩
theorem LS.same (h : LS K CT CM TT a0 xs tb m tw as T n f nu o a b c d e l0 l1 s s' h0 h1 H) (k : Same H H') : LS K CT CM TT a0 xs tb m tw as T n f nu o a b c d e l0 l1 s s' h0 h1 H' :=
  ⟨h.scr.keep fun u _ _ e => k _ u e, h.tabs.same k, k _ _ h.htb, h.tbo, h.rows.same fun c ys e => k _ _ e, h.mach.same k, h.htw.same k, h.own.of_same k⟩
/-- the law's own twin is written -/
theorem LS.own' (h : LS K CT CM TT a0 xs tb m tw as T n f nu o a b c d e l0 l1 s s' h0 h1 H) {L : List Addr} (k : SameOut L H H') (hL : ∀ x ∈ L, x ∈ [a, b, c, d, e] ∨ x = l0 ∨ x = l1) (w : OwnA H' o a b c d e m0 m1 nu s2 g0 g1) : LS K CT CM TT a0 xs tb m tw as T n f nu o a b c d e m0 m1 s s2 g0 g1 H' := by
  have off : ∀ {x : Addr} {u : HO}, H x = some u → (∀ ys, u ≠ .lst ys) → (∀ kvs, u ≠ .dK kvs) → H' x = some u := fun {x u} ex n1 n2 => k _ _ (fun z => by
    have hx : x ∈ [o, a, b, c, d, e, l0, l1] := by
      rcases hL x z with y | y | y
      · simp only [List.mem_cons, List.not_mem_nil, or_false] at y ⊢
        rcases y with y | y | y | y | y <;> simp [y]
      · simp [y]
      · simp [y]
    obtain ⟨u2, e2, y | y⟩ := h.own.kinds hx
    · obtain ⟨ys, y⟩ := y
      rw [ex] at e2
      exact n1 ys ((Option.some.inj e2).trans y)
    · obtain ⟨ys, y⟩ := y
      rw [ex] at e2
      exact n2 ys ((Option.some.inj e2).trans y)) ex
  have lst : ∀ {x : Addr} {ys : List V}, x ∉ [a, b, c, d, e] → H x = some (.lst ys) → H' x = some (.lst ys) := fun {x ys} hx e => k _ _ (fun z => by
    rcases hL x z with y | y | y
    · exact hx y
    · rw [y, h.own.hl0] at e
      cases e
    · rw [y, h.own.hl1] at e
      cases e) e
  refine ⟨h.scr.keep fun u hu how e => ?_, tabs_keep h.tabs fun x u how e => ?_, lst h.tbo h.htb, h.tbo, h.rows.same (fun c ys e => off e (fun _ z => by cases z) (fun _ z => by cases z)), h.mach.keep fun x u how e => ?_, h.htw.keep fun x u how e => ?_, w⟩
  · rcases how with ⟨ys, rfl⟩ | ⟨w, ys, rfl⟩
    · exact lst hu e
    · exact off e (fun _ z => by cases z) fun _ z => by cases z
  · rcases how with ⟨ys, rfl⟩ | ⟨q, rfl⟩
    · exact off e (fun _ z => by cases z) fun _ z => by cases z
    · exact off e (fun _ z => by unfold CodeO at z; cases z) fun _ z => by unfold CodeO at z; cases z
  · rcases how with ⟨ys, rfl⟩ | rfl
    · exact off e (fun _ z => by cases z) fun _ z => by cases z
    · obtain ⟨dx, fs, e2⟩ := h.mach.ins
      rw [e] at e2
      cases e2
      exact off e (fun _ z => by cases z) fun _ z => by cases z
  · rcases how with ⟨ys, rfl⟩ | rfl
    · exact off e (fun _ z => by cases z) fun _ z => by cases z
    · obtain ⟨dx, fs, e2⟩ := h.htw.ins
      rw [e] at e2
      cases e2
      exact off e (fun _ z => by cases z) fun _ z => by cases z
/-- the program's twin is written -/
theorem LS.twin (h : LS K CT CM TT a0 xs tb m tw as T n f nu o a b c d e l0 l1 s s' h0 h1 H) (k : SameBut tw H H') (hm : m ≠ tw) (w : TwAt CT H' tw m (vi f) (vi nu) (.bl true) s2) : LS K CT CM TT a0 xs tb m tw as T n f nu o a b c d e l0 l1 s2 s' h0 h1 H' := by
  obtain ⟨dx, fs, e2⟩ := h.htw.ins
  have off : ∀ {x : Addr} {u : HO}, H x = some u → (∀ dx fs, u ≠ .ins CT dx fs) → H' x = some u := fun {x u} e n1 => k _ _ (fun z => by
    rw [z, e2] at e
    exact n1 dx fs (Option.some.inj e).symm) e
  refine ⟨h.scr.keep fun u _ how e => ?_, tabs_keep h.tabs fun x u how e => ?_, off h.htb (fun _ _ z => by cases z), h.tbo, h.rows.same fun c ys e => off e (fun _ _ z => by cases z), h.mach.keep fun x u how e => ?_, w, h.own.same fun x u how _ e => ?_⟩
  · rcases how with ⟨ys, rfl⟩ | ⟨w, ys, rfl⟩ <;> exact off e (fun _ _ z => by cases z)
  · rcases how with ⟨ys, rfl⟩ | ⟨q, rfl⟩
    · exact off e (fun _ _ z => by cases z)
    · exact off e (fun _ _ z => by unfold CodeO at z; cases z)
  · rcases how with ⟨ys, rfl⟩ | rfl
    · exact off e (fun _ _ z => by cases z)
    · exact k _ _ hm e
  · rcases how with ⟨ys, rfl⟩ | ⟨ys, rfl⟩ <;> exact off e (fun _ _ z => by cases z)
/-- off a box and the tables -/
theorem LS.stay {bx : Addr} (h : LS K CT CM TT a0 xs tb m tw as T n f nu o a b c d e l0 l1 s s' h0 h1 H) (k : StayN bx H H') (hb : BoxAt H bx) (h1' : bx ∉ [a, b, c, d, e]) (h2 : tb ≠ bx) (h3 : Scr K H a0 xs [bx]) (ht : Tabs TT H') : LS K CT CM TT a0 xs tb m tw as T n f nu o a b c d e l0 l1 s s' h0 h1 H' := by
  refine ⟨?_, ht, k _ _ h2 h.htb (fun _ z => by cases z), h.tbo, h.rows.same fun c ys e => k.tup hb e, h.mach.stay hb k, h.htw.stay hb k, h.own.same fun x u how hx e => ?_⟩
  · rcases h3 with h3 | ⟨h3, _⟩
    · exact .inl h3
    · refine h.scr.keep fun u _ how e => k _ _ (fun z => h3 (by simp [z])) e (fun ps z => ?_)
      rcases how with ⟨ys, rfl⟩ | ⟨w, ys, rfl⟩ <;> cases z
  · rcases how with ⟨ys, rfl⟩ | ⟨ys, rfl⟩
    · refine k _ _ (fun z => h1' ?_) e (fun ps z => by cases z)
      rw [← z]
      simp only [List.mem_cons, List.not_mem_nil, or_false] at hx ⊢
      rcases hx with y | y | y | y | y | y | y | y
      · rw [y, h.own.ho] at e
        cases e
      · exact .inl y
      · exact .inr (.inl y)
      · exact .inr (.inr (.inl y))
      · exact .inr (.inr (.inr (.inl y)))
      · exact .inr (.inr (.inr (.inr y)))
      · rw [y, h.own.hl0] at e
        cases e
      · rw [y, h.own.hl1] at e
        cases e
    · refine k _ _ (fun z => ?_) e (fun ps z => by cases z)
      obtain ⟨i, j, hb, _⟩ := hb
      rw [z, hb] at e
      cases e
/-- what a new box is beside -/
theorem LS.fresh {bx : Addr} (h : LS K CT CM TT a0 xs tb m tw as T n f nu o a b c d e l0 l1 s s' h0 h1 H) (hn : H bx = none) : bx ∉ [a, b, c, d, e] ∧ tb ≠ bx ∧ Scr K H a0 xs [bx] ∧ bx ≠ tw ∧ bx ≠ l0 ∧ bx ≠ l1 := by
  refine ⟨fun z => ?_, ne_of_none h.htb hn, (h.scr.mem (L' := []) (by simp)).add hn, ?_, Ne.symm (ne_of_none h.own.hl0 hn), Ne.symm (ne_of_none h.own.hl1 hn)⟩
  · simp only [List.mem_cons, List.not_mem_nil, or_false] at z
    rcases z with z | z | z | z | z
    · exact ne_of_none h.own.ha hn z.symm
    · exact ne_of_none h.own.hb hn z.symm
    · exact ne_of_none h.own.hc hn z.symm
    · exact ne_of_none h.own.hd hn z.symm
    · exact ne_of_none h.own.he hn z.symm
  · obtain ⟨dx, fs, e⟩ := h.htw.ins
    exact Ne.symm (ne_of_none e hn)
end
theorem Scr.pure {K : PySem.W.Frag} {H : Hp} {a p : Addr} {xs : List V} (h : Scr K H a xs [p]) : (∀ H', SqL K H' a xs) ∨ a ≠ p := h.imp id fun ⟨h1, _⟩ z => h1 (by simp [z])
theorem Scr.box {K : PySem.W.Frag} {H : Hp} {a p : Addr} {xs : List V} {L : List Addr} (h : Scr K H a xs L) (k : (∀ H', SqL K H' a xs) ∨ a ≠ p) : Scr K H a xs [p] := k.elim .inl fun n => h.elim .inl fun ⟨_, r⟩ => .inr ⟨by simp [n], r⟩
theorem BoxAt.out {bx : Addr} {H H' : Hp} {L : List Addr} (h : BoxAt H bx) (k : SameOut L H H') (hx : bx ∉ L) : BoxAt H' bx := by
  obtain ⟨x, y, e, h1, h2⟩ := h
  exact ⟨x, y, k _ _ hx e, h1, h2⟩
theorem BoxAt.but {bx p : Addr} {H H' : Hp} (h : BoxAt H bx) (k : SameBut p H H') (hx : bx ≠ p) : BoxAt H' bx := by
  obtain ⟨x, y, e, h1, h2⟩ := h
  exact ⟨x, y, k _ _ hx e, h1, h2⟩
/-- a box that was new, written: all that stood stands -/
theorem same_box {bx : Addr} {H H1 H2 : Hp} (hn : H bx = none) (s1 : Same H H1) (s2 : SameBut bx H1 H2) : Same H H2 := fun x o e => s2 _ _ (ne_of_none e hn) (s1 _ _ e)
end K35
set_option maxHeartbeats 8000000
/-! The law's own def. -/
namespace K35
open PySem PySem.Spec PyProof.Rows L2 LamX
section
variable {w : World} {K : PySem.W.Frag} {mg : Str → Option Value} {base : Heap}
def spLaw (K : PySem.W.Frag) (TT : List (Addr × Str)) : Sp := fun vs H Q _ => ∃ (a : Addr) (ns : List Int), vs = [.ref a] ∧ SqL K H a (ns.map V.int) ∧ ns.length ≤ 63 ∧ Tabs TT H ∧ ∀ H', Q (.bl true) H'
/-- the class Machine compared by its own __eq__ -/
structure NeF (w : World) (K : PySem.W.Frag) (mg : Str → Option Value) (base : Heap) (CM : Addr) : Prop where
  ex : ∃ (f : Addr) (fd : FuncData), NeC K CM f ∧ L2.Binds K fd ["self", "other"] [] ∧ FnOk Pg w K mg base (L2.CX Pg w) 1 f fd ["self", "other"] (spMachEq CM)
abbrev N_law : List Str := ["_law_script", "_law_box_here", "_law_small", "_law_numbers", "_law_first", "_law_tables", "_law_machine_here", "_law_twin", "_law_own", "_law_k", "_law_side", "_law_deed", "_law_whole", "_law_met", "_law_told"]
theorem sc_law : FnScope N_law ["_law_script"] (defScope s_law) := ⟨rfl, rfl, rfl, by decide +kernel, rfl, by decide +kernel, by decide +kernel⟩
theorem ok_law {CT CM CS CD CU CR : Addr} {TT : List (Addr × Str)} {f : Addr} {fd : FuncData} (F : Fd K "law" "law" s_law f fd) (B : Bu mg) (TC : TF K CT) (M : MF K CM) (NE : NeF w K mg base CM)
    (C_law_box : Cal Pg w K mg base 1 "_law_box" ["_law_script", "_law_k"] (spBox K)) (C_law_take : Cal Pg w K mg base 1 "_law_take" ["_law_box_here", "_law_many"] spTake) (C_law_machine : Cal Pg w K mg base 3 "_law_machine" ["_law_box_here"] spLMach)
    (C_law_wider : Cal Pg w K mg base 2 "_law_wider" ["_law_box_here", "_law_tables"] spWider) (C_law_new : Cal Pg w K mg base 1 "_law_new" ["_law_first", "_law_numbers", "_law_keeps"] spNew) (C_law_do : Cal Pg w K mg base 1 "_law_do" ["_law_tables", "_law_own", "_law_side", "_law_deed", "_law_name"] spODo)
    (C_law_meet : Cal Pg w K mg base 2 "_law_meet" ["_law_tables", "_law_own", "_law_side", "_law_whole"] spOMeet) (C_law_right : Cal Pg w K mg base 2 "_law_right" ["_law_tables", "_law_first", "_law_own"] spORight) (C_law_same : CalG Pg w K mg base 2 "_law_same" ["_law_twin", "_law_own"] (spSame CT))
    (C_law_strangers_right : CalG Pg w K mg base 9 "_law_strangers_right" ["_law_box_here", "_law_machine_here", "_law_twin", "_law_numbers"] (spStr K CT CM TT)) (C_law_made_right : CalG Pg w K mg base 12 "_law_made_right" ["_law_box_here", "_law_machine_here", "_law_first"] (spMade CM TT))
    (MK_Machine : MakP Pg w K mg base 6 "Machine" CM ["self", "tables"] (spMachInit CM))
    (MK_Twin_numbers : MakK Pg w K mg base 8 "Twin" CT ["self", "machine", "first", "numbers", "keeps"] (spTwinInit K CT CM CS CU CR) 2 ["numbers"] (fun vs zs => vs ++ zs ++ [.bl true]))
    (MK_Twin_first_machine : MakK Pg w K mg base 8 "Twin" CT ["self", "machine", "first", "numbers", "keeps"] (spTwinInit K CT CM CS CU CR) 0 ["first", "machine"] (fun vs zs => vs ++ zs.reverse ++ [.int 2, .bl true]))
    (M_do : Met Pg w K mg base 5 CT "do" ["self", "side", "deed"] (spDo K CT CM CR CD)) (KM_do_deed_side : MetK Pg w K mg base 5 CT "do" ["self", "side", "deed"] (spDo K CT CM CR CD) ["deed", "side"] (fun vs zs => vs ++ zs.reverse))
    (KM_meet_side_whole : MetK Pg w K mg base 6 CT "meet" ["self", "side", "whole"] (spMeet K CT CM CR) ["side", "whole"] (fun vs zs => vs ++ zs)) (KM_meet : MetK Pg w K mg base 6 CT "meet" ["self", "side", "whole"] (spMeet K CT CM CR) [] (fun vs zs => vs ++ [.int 0, .bl true])) :
    FnG Pg w K mg base (L2.CX Pg w) 13 f fd ["_law_script"] (spLaw K TT) := by
  refine okGN F sc_law (fun vs H Q E ⟨a, ns, ev, _⟩ => by rw [ev] <;> rfl) fun cdv A outer s0 H vs Q E hg hr ⟨a0, ns, ev, hS, hns, hTT, q⟩ => ?_
  subst ev
  have G : (A.deeper (envOfC "law" (defScope s_law) s0.heap.objs.size f cdv)).guards = some [] := hg
  obtain ⟨fE, fdE, NC, bE, FE⟩ := NE.ex
  refine ⟨_, (pss_cons (ps_set (i := 1) sc_law.nd rfl (Or.inl rfl) (pe_cal C_law_box (hr.mono (by decide)) (by rfl) passL (pa_cons (pv 0) (pa_cons pe_int pa_nil))))
  (pss_cons (ps_par (i := 2) (j := 3) (by rfl) sc_law.nd rfl rfl (by decide) rfl rfl (pa_cons (pe_cal C_law_machine (hr.mono (by decide)) (by rfl) passL (pa_cons (pv 1) pa_nil)) (pa_cons (pe_op op_add pe_int (pe_cal C_law_take (hr.mono (by decide)) (by rfl) passL (pa_cons (pv 1) (pa_cons pe_int pa_nil)))) pa_nil)) (by rfl))
  (pss_cons (ps_par (i := 4) (j := 5) (by rfl) sc_law.nd rfl rfl (by decide) rfl rfl (pa_cons (pe_cal C_law_take (hr.mono (by decide)) (by rfl) passL (pa_cons (pv 1) (pa_cons (pe_callB call_len_seq (by rfl) B.len (by decide +kernel) (pa_cons (pe_ix ix_list (pv 2) pe_int (fun _ _ => rfl)) pa_nil)) pa_nil))) (pa_cons (pe_cal C_law_wider (hr.mono (by decide)) (by rfl) passL (pa_cons (pv 1) (pa_cons (pv 2) pa_nil))) pa_nil)) (by rfl))
  (pss_cons (ps_set (i := 6) sc_law.nd rfl (Or.inl rfl) (pe_mkP MK_Machine (hr.mono (by decide)) (by rfl) passL (pa_cons (pv 5) pa_nil)))
  (C8.pss_cut (ps_set (i := 7) sc_law.nd rfl (Or.inl rfl) (pe_ifExp (PW.pt (pw_or (pt_cmpR op_eq (pv 3) pe_int (nomark _)) (pw_or1 (pt_cmpR op_eq (pe_cal C_law_take (hr.mono (by decide)) (by rfl) passL (pa_cons (pv 1) (pa_cons pe_int pa_nil))) pe_int (nomark _))))) (pe_mkK MK_Twin_numbers (hr.mono (by decide)) (by rfl) passL (pa_cons (pv 6) (pa_cons (pv 4) pa_nil)) (pk_cons (pv 3) pk_nil)) (pe_mkK0 MK_Twin_first_machine (hr.mono (by decide)) (by rfl) passL (pk_cons (pv 4) (pk_cons (pv 6) pk_nil)))))
  (pss_cons (ps_set (i := 8) sc_law.nd rfl (Or.inl rfl) (pe_cal C_law_new (hr.mono (by decide)) (by rfl) passL (pa_cons (pv 4) (pa_cons (pv 3) (pa_cons pe_bl pa_nil)))))
  (C8.pss_cut (ps_if (PW.pt (pw_or (pt_cmpR op_ne (pe_callB (call_reprD G hr) (by rfl) B.repr (by decide +kernel) (pa_cons (pe_tup (pa_cons (pe_fld (pv 7) rfl) (pa_cons (pe_fld (pv 7) rfl) (pa_cons (pe_fld (pv 7) rfl) pa_nil)))) pa_nil)) (pe_callB (call_reprD G hr) (by rfl) B.repr (by decide +kernel) (pa_cons (pe_tup (pa_cons (pv 4) (pa_cons (pv 3) (pa_cons pe_bl pa_nil)))) pa_nil)) (nomark _)) (pw_or (pt_cmpR (op_neOwn NC FE (hr.mono (by decide)) bE passL) (pe_fld (pv 7) rfl) (pv 6) (nomark _)) (pw_or1 (pt_not (pt_val (pe_calG G C_law_same (hr.mono (by decide)) (by rfl) passL (pa_cons (pv 7) (pa_cons (pv 8) pa_nil))))))))) (pss_one (ps_ret pe_bl)) pss_nil)
  (pss_cons (ps_for PassesOwn.never rfl (pi_range2 (by rfl) B.range (pa_cons pe_int (pa_cons (pe_callB (call_max2 rfl) (by rfl) B.max (by decide +kernel) (pa_cons pe_int (pa_cons (pe_callB (call_min2 rfl) (by rfl) B.min (by decide +kernel) (pa_cons (pe_callB call_len_seq (by rfl) B.len (by decide +kernel) (pa_cons (pv 0) pa_nil)) (pa_cons pe_int pa_nil))) pa_nil))) pa_nil))) (pg_name (i := 9) sc_law.nd rfl (Or.inl rfl))
   (pss_cons (ps_set (i := 1) sc_law.nd rfl (Or.inl rfl) (pe_cal C_law_box (hr.mono (by decide)) (by rfl) passL (pa_cons (pv 0) (pa_cons (pv 9) pa_nil))))
  (C8.pss_cut (ps_if (pt_cmpR op_eq (pe_cal C_law_take (hr.mono (by decide)) (by rfl) passL (pa_cons (pv 1) (pa_cons pe_int pa_nil))) pe_int (nomark _)) (pss_cons (ps_par (i := 10) (j := 11) (by rfl) sc_law.nd rfl rfl (by decide) rfl rfl (pa_cons (pe_cal C_law_take (hr.mono (by decide)) (by rfl) passL (pa_cons (pv 1) (pa_cons pe_int pa_nil))) (pa_cons (pe_cal C_law_take (hr.mono (by decide)) (by rfl) passL (pa_cons (pv 1) (pa_cons (pe_callB call_len_seq (by rfl) B.len (by decide +kernel) (pa_cons (pv 5) pa_nil)) pa_nil))) pa_nil)) (by rfl))
  (pss_cons (ps_expr (pe_cal C_law_do (hr.mono (by decide)) (by rfl) passL (pa_cons (pv 5) (pa_cons (pv 8) (pa_cons (pv 10) (pa_cons (pv 11) (pa_cons (pv 9) pa_nil)))))))
  (pss_one (ps_if (pt_cmpR op_ne (pe_callB (call_reprD G hr) (by rfl) B.repr (by decide +kernel) (pa_cons (pe_ifExp (pt_cmpR op_eq (pe_op op_modN (pe_callTy (T := "int") call_int1 (by rfl) B.int (by decide +kernel) (pa_cons (pv 9) pa_nil)) pe_int) pe_int (nomark _)) (pe_mt TC.cl M_do (hr.mono (by decide)) passL (pv 7) (pa_cons (pv 10) (pa_cons (pv 11) pa_nil))) (pe_mtK TC.cl KM_do_deed_side (hr.mono (by decide)) passL (pv 7) (pk_cons (pv 11) (pk_cons (pv 10) pk_nil)))) pa_nil)) (pe_callB (call_reprD G hr) (by rfl) B.repr (by decide +kernel) (pa_cons (pe_ix ix_list (pe_dget (hu_of hr) (pv 8) pe_str (fun _ _ => rfl)) (pv 10) (fun _ _ => rfl)) pa_nil)) (nomark _)) (pss_one (ps_ret pe_bl)) pss_nil)))) (C8.pss_cut (ps_par (i := 10) (j := 12) (by rfl) sc_law.nd rfl rfl (by decide) rfl rfl (pa_cons (pe_ifExp (pt_cmpR op_eq (pv 3) pe_int (nomark _)) (pe_cal C_law_take (hr.mono (by decide)) (by rfl) passL (pa_cons (pv 1) (pa_cons pe_int pa_nil))) pe_int) (pa_cons (pe_cmpR op_lt (pe_cal C_law_take (hr.mono (by decide)) (by rfl) passL (pa_cons (pv 1) (pa_cons pe_int pa_nil))) pe_int (nomark _)) pa_nil)) (by rfl))
  (pss_cons (ps_set (i := 13) sc_law.nd rfl (Or.inl rfl) (pe_cal C_law_meet (hr.mono (by decide)) (by rfl) passL (pa_cons (pv 5) (pa_cons (pv 8) (pa_cons (pv 10) (pa_cons (pv 12) pa_nil))))))
  (C8.pss_cut (ps_set (i := 14) sc_law.nd rfl (Or.inl rfl) (pe_ifExp (PW.pt (pw_or (pt_cmpR op_eq (pv 10) pe_int (nomark _)) (pw_or1 (pt_not (pt_val (pv 12)))))) (pe_mtK TC.cl KM_meet_side_whole (hr.mono (by decide)) passL (pv 7) (pk_cons (pv 10) (pk_cons (pv 12) pk_nil))) (pe_mtK TC.cl KM_meet (hr.mono (by decide)) passL (pv 7) pk_nil)))
  (pss_one (ps_if (pt_cmpR op_ne (pe_callB (call_reprD G hr) (by rfl) B.repr (by decide +kernel) (pa_cons (pv 14) pa_nil)) (pe_callB (call_reprD G hr) (by rfl) B.repr (by decide +kernel) (pa_cons (pv 13) pa_nil)) (nomark _)) (pss_one (ps_ret pe_bl)) pss_nil))))))
  (C8.pss_cut (ps_if (PW.pt (pw_or (pt_not (pt_val (pe_calG G C_law_same (hr.mono (by decide)) (by rfl) passL (pa_cons (pv 7) (pa_cons (pv 8) pa_nil))))) (pw_or1 (pt_not (pt_val (pe_cal C_law_right (hr.mono (by decide)) (by rfl) passL (pa_cons (pv 5) (pa_cons (pv 4) (pa_cons (pv 8) pa_nil))))))))) (pss_one (ps_ret pe_bl)) pss_nil)
  (pss_one (ps_if (PW.pt (pw_and (pt_cmpR op_eq (pe_op op_modN (pe_callTy (T := "int") call_int1 (by rfl) B.int (by decide +kernel) (pa_cons (pv 9) pa_nil)) pe_int) pe_int (nomark _)) (pw_and1 (pt_not (pt_val (pe_calG G C_law_strangers_right (hr.mono (by decide)) (by rfl) passL (pa_cons (pv 1) (pa_cons (pv 6) (pa_cons (pv 7) (pa_cons (pv 3) pa_nil)))))))))) (pss_one (ps_ret pe_bl)) pss_nil))))))
  (pss_one (ps_ret (pe_calG G C_law_made_right (hr.mono (by decide)) (by rfl) passL (pa_cons (pe_cal C_law_box (hr.mono (by decide)) (by rfl) passL (pa_cons (pv 0) (pa_cons pe_int pa_nil))) (pa_cons (pv 6) (pa_cons (pv 4) pa_nil)))))))))))))), ?_⟩
  -- the box
  refine ⟨_, rfl, a0, ns, 0, rfl, hS, by omega, by decide, fun H1 bx s1 nb hb1 => ?_⟩
  have bT : ∀ {x : Addr} {u : HO}, H x = some u → x ≠ bx := fun e => ne_of_none e nb
  have hT1 := hTT.same s1
  -- the small machine, the numbers
  refine ⟨_, rfl, bx, rfl, hb1, fun H2 sm as0 T0 m0 s2 hb2 nsm hsm hR0 hTM hCo => ?_⟩
  have hT2 := hT1.but hb1 s2
  refine ⟨_, rfl, bx, 2, rfl, hb2, by decide, by decide, fun H3 r hr3 s3 hb3 => ?_⟩
  have hT3 := hT2.but hb2 s3
  have smb : sm ≠ bx := Ne.symm (hb1.ne nsm)
  have hsm3 := s3 _ _ smb hsm
  have hR3 := hR0.same fun c xs e => s3 _ _ (hb2.tup e) e
  -- the first state, the tables
  obtain ⟨nu, enu⟩ : ∃ nu, nu = 2 + r := ⟨_, rfl⟩
  have hnu : nu = 2 ∨ nu = 3 := by omega
  refine ⟨_, _, rfl, rfl, .ref sm, vi nu, (by rw [enu]; show [V.ref sm, V.int (2 + (r : Int))] = [V.ref sm, V.int ((2 + r : Nat) : Int)]; rw [Int.natCast_add] <;> rfl), ?_⟩
  have hm9 := hTM.m9
  have hm1 := hTM.m1
  obtain ⟨p0, r0, e0, f00, g0⟩ := hR3.get (i := 0) (by have := hTM.d1; omega)
  have len0 : (((iv r0).length : Nat) : Int) = (m0 : Int) := by rw [List.length_map, hTM.len _ (List.mem_of_getElem? f00)]
  refine ⟨_, rfl, _, rfl, sm, _, _, _, rfl, rfl, SqL.of hsm3, at0 (by rw [List.getElem?_map, e0] <;> rfl), p0, _, rfl, .inr (SqT.of g0), ?_⟩
  rw [len0]
  refine ⟨bx, m0, rfl, hb3, by omega, by omega, fun H4 f0 hf s4 hb4 => ?_⟩
  have hT4 := hT3.but hb3 s4
  have hsm4 := s4 _ _ smb hsm3
  have hR4 := hR3.same fun c xs e => s4 _ _ (hb3.tup e) e
  refine ⟨_, rfl, _, rfl, bx, sm, as0, T0, m0, rfl, hb4, hsm4, smb, hR4, hTM, fun H5 tb as T n s5 hb5 ntb htb hR hTab hW => ⟨_, _, rfl, ?_⟩⟩
  have hT5 := hT4.but hb4 s5
  have tbx : tb ≠ bx := Ne.symm (hb4.ne ntb)
  have s05 : Same H H5 := same_box nb s1 (((s2.trans s3).trans s4).trans s5)
  have C : Cm T m0 := cm_wide hTM hW hCo
  have hmn := hW.le
  clear s1 s2 s3 s4 s5 hb1 hb2 hb3 hb4 hT1 hT2 hT3 hT4 hsm hsm3 hsm4 hR0 hR3 hR4 g0 e0 f00 len0 nsm bT ntb hCo hW
  -- the machine
  refine ⟨_, rfl, fun mx dm nx ndx hne => ⟨mx, tb, dm, as, T, n, rfl, upd_same, (same_ins nx ndx hne) _ _ htb, hR.same fun c xs e => (same_ins nx ndx hne) _ _ e, hTab, fun H6 tt sb nt htt hma => ⟨rfl, ?_⟩⟩⟩
  have s56 : Same H5 H6 := fun x u e => sb _ _ (ne_of_none e nx) ((same_ins nx ndx hne) _ _ e)
  have hM : MachOk CM H6 mx T n := ⟨tt, dm, as, hma, htt, hR.same fun c xs e => s56 _ _ e, hTab⟩
  have hb6 := hb5.same s56
  have hT6 := hT5.same s56
  have htb6 := s56 _ _ htb
  have hR6 := hR.same fun c xs e => s56 _ _ e
  have s06 := s05.trans s56
  clear sb nt htt nx ndx hne hb5 hT5 htb hR s05 s56
  have hfn : f0 < n := by omega
  -- a twin
  have made : ∀ (Hx : Hp), SameBut bx H6 Hx → BoxAt Hx bx → ∀ x dx, Hx x = none → Hx dx = none → dx ≠ x → ∀ (Q' : VK) (E' : XK), (∀ H', SameBut bx H6 H' → BoxAt H' bx → TwAt CT H' x mx (vi f0) (vi nu) (.bl true) ⟨f0, f0, f0, f0, 0, 0, .non, .non⟩ → mx ≠ x → Q' .non H') →
      spTwinInit K CT CM CS CU CR [.ref x, .ref mx, vi f0, vi nu, .bl true] (upd (upd Hx dx (.own x)) x (.ins CT dx [])) Q' E' := fun Hx sx hbx x dx nx ndx hne Q' E' k => by
    have si : Same Hx (upd (upd Hx dx (.own x)) x (.ins CT dx [])) := same_ins nx ndx hne
    obtain ⟨dm', fs', hmi⟩ := hM.ins
    have mxb : mx ≠ bx := hb6.neIns hmi
    have hm2 := sx _ _ mxb hmi
    refine ⟨x, mx, dx, vi f0, vi nu, .bl true, T, n, rfl, upd_same, (hM.keep fun c u how e => sx _ _ (how.elim (fun ⟨xs, z⟩ => hb6.tup (z ▸ e)) fun z => z ▸ mxb) e).same si, .int _, .inr ⟨f0, hfn, rfl, .inr ⟨C.com hf, .int _, .inr ⟨?_, .bl true, .inr ⟨rfl, fun H' sb tw' => ?_⟩⟩⟩⟩⟩
    · show (decide ((1 : Int) ≤ nu) && decide ((nu : Int) ≤ 3)) = true
      rw [decide_eq_true (by omega), decide_eq_true (by omega)] <;> rfl
    · have xb : bx ≠ x := hbx.ne nx
      refine k H' (fun c u hc e => sb _ _ (fun z => ?_) (si _ _ (sx _ _ hc e))) ?_ tw' (ne_of_none hm2 nx)
      · have := sx _ _ hc e
        rw [z, nx] at this
        cases this
      · exact (hbx.same si).but sb xb
  refine ⟨fun σ H7 => ∃ tw, σ = [some (.ref a0), some (.ref bx), some (.ref sm), some (vi nu), some (vi f0), some (.ref tb), some (.ref mx), some (.ref tw), none, none, none, none, none, none, none] ∧ SameBut bx H6 H7 ∧ BoxAt H7 bx ∧ TwAt CT H7 tw mx (vi f0) (vi nu) (.bl true) ⟨f0, f0, f0, f0, 0, 0, .non, .non⟩ ∧ mx ≠ tw, ?_, ?_⟩
  · refine ⟨_, rfl, rfl, _, rfl, ?_⟩
    by_cases h3 : nu = 3
    · refine iteD (by rw [h3] <;> rfl) ?_
      refine ⟨_, rfl, _, rfl, _, rfl, rfl, rfl, fun x dx nx ndx hne => made H6 (.refl _ _) hb6 x dx nx ndx hne _ _ fun H' s' hb' tw' hne' => ⟨rfl, x, rfl, s', hb', tw', hne'⟩⟩
    · refine iteDn (fun z => h3 (by injection z with z; omega)) ?_
      have h2 : nu = 2 := by omega
      refine ⟨_, rfl, bx, 2, rfl, hb6, by decide, by decide, fun H7 r2 hr2 s7 hb7 => ?_⟩
      refine ⟨rfl, _, rfl, ?_⟩
      refine ite2 (fun _ => ?_) fun _ => ?_
      · refine ⟨_, rfl, _, rfl, _, rfl, rfl, rfl, fun x dx nx ndx hne => made H7 s7 hb7 x dx nx ndx hne _ _ fun H' s' hb' tw' hne' => ⟨rfl, x, rfl, s', hb', tw', hne'⟩⟩
      · refine ⟨_, rfl, _, rfl, rfl, rfl, fun x dx nx ndx hne => ?_⟩
        have := made H7 s7 hb7 x dx nx ndx hne
        rw [h2] at this
        exact this _ _ fun H' s' hb' tw' hne' => ⟨rfl, x, by rw [h2] <;> rfl, s', hb', by rw [h2]; exact tw', hne'⟩
  rintro σ H7 ⟨tw, rfl, s67, hb7, htw, hmt⟩
  -- the law's own twin
  refine ⟨_, rfl, _, rfl, f0, nu, rfl, fun H8 o a b c d e l0 l1 s8 newL own => ?_⟩
  have L8 : LS K CT CM TT a0 (ns.map V.int) tb mx tw as T n f0 nu o a b c d e l0 l1 ⟨f0, f0, f0, f0, 0, 0, .non, .non⟩ ⟨f0, f0, f0, f0, 0, 0, .non, .non⟩ [] [] H8 := by
    have s07 : Same H H7 := same_box nb s06 s67
    have htb7 := s67 _ _ tbx htb6
    obtain ⟨dm', fs', hmi⟩ := hM.ins
    have mxb : mx ≠ bx := hb6.neIns hmi
    have hM7 : MachOk CM H7 mx T n := hM.keep fun c u how e => s67 _ _ (how.elim (fun ⟨xs, z⟩ => hb6.tup (z ▸ e)) fun z => z ▸ mxb) e
    have na := newL a (by simp)
    have nb' := newL b (by simp)
    have nc := newL c (by simp)
    have nd := newL d (by simp)
    have ne := newL e (by simp)
    refine ⟨((((((Scr.of (s07.seq hS)).add ne).add nd).add nc).add nb').add na).keep fun u _ _ e => s8 _ _ e, ((hT6.but hb6 s67)).same s8, s8 _ _ htb7, fun z => ?_, (hR6.same fun c xs e => s67 _ _ (hb6.tup e) e).same (fun c xs e => s8 _ _ e), hM7.same s8, htw.same s8, own⟩
    simp only [List.mem_cons, List.not_mem_nil, or_false] at z
    rcases z with z | z | z | z | z
    · exact ne_of_none htb7 na z
    · exact ne_of_none htb7 nb' z
    · exact ne_of_none htb7 nc z
    · exact ne_of_none htb7 nd z
    · exact ne_of_none htb7 ne z
  have I8 : PInv T m0 f0 nu 1 ⟨f0, f0, f0, f0, 0, 0, .non, .non⟩ [] [] := PInv.init hnu hf
  clear s8 newL own htw s67 hb7 hM hb6 hT6 htb6 hR6 s06 made hS hTT nb tbx
  -- as it was made
  refine ⟨fun σ H9 => σ = [some (.ref a0), some (.ref bx), some (.ref sm), some (vi nu), some (vi f0), some (.ref tb), some (.ref mx), some (.ref tw), some (.ref o), none, none, none, none, none, none] ∧
    LS K CT CM TT a0 (ns.map V.int) tb mx tw as T n f0 nu o a b c d e l0 l1 ⟨f0, f0, f0, f0, 0, 0, .non, .non⟩ ⟨f0, f0, f0, f0, 0, 0, .non, .non⟩ [] [] H9, ?_, ?_⟩
  · obtain ⟨dx, q1, q2, q3, q4, x1, x2, x3, x4, x5⟩ := L8.htw
    obtain ⟨d3, good3, dp3⟩ : ∃ d3, Good d3 1 40 ∧ ∀ (H' : Hp) (p : Addr), H' p = some (.tup [vi f0, vi nu, .bl true]) → Dp K H' (.ref p) d3 :=
      ⟨.tuple [.int (f0 : Int), .int (nu : Int), .bool true], ((GoodAll.cons (good_int (x := f0) (k := 0) (by omega)) (GoodAll.cons (good_int (x := nu) (by omega)) (GoodAll.cons good_bl (GoodAll.nil (w := 0))))).tup).wide (Nat.le_refl _) (by decide), fun H' p h => .tup (SqT.of h) (.cons (.int _) (.cons (.int _) (.cons (.bl _) .nil)))⟩
    refine ⟨_, rfl, tw, CT, dx, _, _, rfl, x1, TC.cl, TC.first, rfl, ?_⟩
    refine ⟨_, rfl, tw, CT, dx, _, _, rfl, x1, TC.cl, TC.numbers, rfl, ?_⟩
    refine ⟨_, rfl, tw, CT, dx, _, _, rfl, x1, TC.cl, TC.keeps, rfl, by show 3 ≤ sizeLine; decide, fun p1 np1 => ?_⟩
    have t1 : Same H8 (upd H8 p1 (.tup [vi f0, vi nu, .bl true])) := Same.new np1
    refine ⟨.ref p1, d3, rfl, dp3 _ _ upd_same, good3.sh, good3.nd, Nat.le_trans good3.dp (by decide), good3.fits (by decide), ?_⟩
    refine ⟨_, rfl, _, rfl, by show 3 ≤ sizeLine; decide, fun p2 np2 => ?_⟩
    have t2 := t1.trans (Same.new (o := .tup [vi f0, vi nu, .bl true]) np2)
    refine ⟨.ref p2, d3, rfl, dp3 _ _ upd_same, good3.sh, good3.nd, Nat.le_trans good3.dp (by decide), good3.fits (by decide), ?_⟩
    have L9 := L8.same t2
    refine ⟨rfl, _, rfl, iteNS rfl ?_⟩
    obtain ⟨dm, fs, hmi⟩ := L9.mach.ins
    refine ⟨_, rfl, tw, CT, dx, _, _, rfl, t2 _ _ x1, TC.cl, TC.machine, rfl, ?_⟩
    refine ⟨_, rfl, mx, mx, dm, dm, fs, fs, rfl, rfl, hmi, hmi, mx, mx, T, n, rfl, L9.mach, L9.mach, true, rfl, _, rfl, iteF ?_⟩
    refine ⟨_, rfl, _, rfl, tw, mx, o, a, b, c, d, e, l0, l1, vi f0, nu, _, [], [], rfl, L9.htw, L9.own, hnu, I8.small C hf (by omega) hnu, fun H10 s10 => ?_⟩
    exact ⟨_, rfl, iteF ⟨rfl, L9.same s10⟩⟩
  rintro σ H9 ⟨rfl, L9⟩
  clear L8
  -- the turns
  obtain ⟨hi, ehi, hi16, hi48⟩ : ∃ hi : Nat, (if (if (48 : Int) < (((ns.map V.int).length : Nat) : Int) then (48 : Int) else (((ns.map V.int).length : Nat) : Int)) > 16 then (if (48 : Int) < (((ns.map V.int).length : Nat) : Int) then (48 : Int) else (((ns.map V.int).length : Nat) : Int)) else 16) = (hi : Int) ∧ 16 ≤ hi ∧ hi ≤ 48 := by
    rw [List.length_map]
    by_cases h1 : (48 : Int) < (ns.length : Int)
    · rw [if_pos h1]
      exact ⟨48, rfl, by decide, by decide⟩
    · rw [if_neg h1]
      by_cases h2 : (ns.length : Int) > 16
      · rw [if_pos h2]
        exact ⟨ns.length, rfl, by omega, by omega⟩
      · rw [if_neg h2]
        exact ⟨16, rfl, by decide, by decide⟩
  refine ⟨_, rfl, a0, _, rfl, .inl L9.scr.sq, _, _, rfl, _, _, rfl, 1, (hi : Int), (by rw [ehi]), ⟨by decide, by decide, by omega, by omega⟩, ?_⟩
  refine for_range (lo := 1) (n := ((hi : Int) - 1).toNat) (fun i σ H => ∃ (o1 o9 o10 o11 o12 o13 o14 : Option V) (l0 l1 : Addr) (s : Tw) (h0 h1 : Hd), σ = [some (.ref a0), o1, some (.ref sm), some (vi nu), some (vi f0), some (.ref tb), some (.ref mx), some (.ref tw), some (.ref o), o9, o10, o11, o12, o13, o14] ∧
      LS K CT CM TT a0 (ns.map V.int) tb mx tw as T n f0 nu o a b c d e l0 l1 s s h0 h1 H ∧ PInv T m0 f0 nu (i + 1) s h0 h1) ⟨_, _, _, _, _, _, _, l0, l1, _, [], [], rfl, L9, I8⟩ ?_ ?_
  · clear L9 I8 l0 l1
    rintro i σ H hi2 ⟨o1, o9, o10, o11, o12, o13, o14, l0, l1, s, h0, h1, rfl, L, I⟩
    have hk : i + 1 < 48 := by omega
    rw [show V.int (1 + (i : Int)) = vi (i + 1) by show V.int (1 + (i : Int)) = V.int ((i + 1 : Nat) : Int); rw [show ((i + 1 : Nat) : Int) = 1 + (i : Int) by omega]]
    obtain ⟨low0, low1⟩ := I.low C hf
    have s0n : s.s0 < n := by omega
    have s1n : s.s1 < n := by omega
    -- the box
    refine ⟨_, rfl, _, rfl, a0, ns, i + 1, rfl, L.scr.sq, by omega, by omega, fun H1 bx s1 nb hb1 => ?_⟩
    obtain ⟨f1, f2, f3, f4, f5, f6⟩ := L.fresh nb
    have fS := f3.pure
    -- a deed or a meeting
    refine ⟨fun σ H' => ∃ (o10 o11 o12 o13 o14 : Option V) (l0 l1 : Addr) (s : Tw) (h0 h1 : Hd), σ = [some (.ref a0), some (.ref bx), some (.ref sm), some (vi nu), some (vi f0), some (.ref tb), some (.ref mx), some (.ref tw), some (.ref o), some (vi (i + 1)), o10, o11, o12, o13, o14] ∧
      LS K CT CM TT a0 (ns.map V.int) tb mx tw as T n f0 nu o a b c d e l0 l1 s s h0 h1 H' ∧ PInv T m0 f0 nu (i + 1 + 1) s h0 h1 ∧ BoxAt H' bx, ?_, ?_⟩
    · refine ⟨_, rfl, bx, 2, rfl, hb1, by decide, by decide, fun H2 r2 hr2 s2 hb2 => ?_⟩
      refine ⟨rfl, _, rfl, ite2 (fun _ => ?_) fun _ => ?_⟩
      · -- a deed
        have L2' := L.same (same_box nb s1 s2)
        refine ⟨_, rfl, bx, 2, rfl, hb2, by decide, by decide, fun H3 side hsd s3 hb3 => ?_⟩
        have L3 := L.same (same_box nb s1 (s2.trans s3))
        refine ⟨_, rfl, _, rfl, tb, _, rfl, .inl (SqL.of L3.htb), bx, T.length, (by rw [List.length_map, L3.rows.1] <;> rfl), hb3, by have := hTab.d1; omega, by have := hTab.d8; omega, fun H4 dd hdd s4 hb4 => ⟨_, _, rfl, ?_⟩⟩
        have L4 := L.same (same_box nb s1 ((s2.trans s3).trans s4))
        obtain ⟨⟨nm0, nm1⟩, nl0, nl1⟩ := I.names
        clear L2' L3 hb1 hb2 hb3 s1 s2 s3 s4
        refine ⟨_, rfl, _, rfl, _, rfl, _, rfl, _, rfl, tb, o, a, b, c, d, e, l0, l1, nu, s, h0, h1, as, T, n, side, dd, i + 1, rfl, L4.own, L4.htb, (fun z => L4.tbo (by simp [z])), L4.rows, hTab, s0n, s1n, by omega, hdd, nm0, nm1, by omega, by omega, fun H5 so own5 => ?_⟩
        have L5 := L4.own' so (fun x hx => by
          simp only [List.mem_cons, List.not_mem_nil, or_false] at hx ⊢
          rcases hx with y | y | y
          · exact .inl (.inl y)
          · exact .inr (.inl y)
          · exact .inr (.inr y)) own5
        have hb5 : BoxAt H5 bx := hb4.out so (fun z => by
          simp only [List.mem_cons, List.not_mem_nil, or_false] at z
          rcases z with y | y | y
          · exact f1 (by simp [y])
          · exact f5 y
          · exact f6 y)
        clear L4 hb4 so own5
        have hst : s.st side < n := by
          unfold Tw.st
          split <;> assumption
        have hzn := hTab.lt' hdd hst
        have hn12 := hTab.n12
        obtain ⟨z, ez⟩ : ∃ z, z = stp T dd (s.st side) := ⟨_, rfl⟩
        obtain ⟨dz, gz, pz⟩ : ∃ dz, Good dz 1 10 ∧ ∀ H', Dp K H' (vi z) dz := ⟨.int (z : Int), good_int (by omega), fun H' => .int _⟩
        have hat : atI [vi (s.setS side z).s0, vi (s.setS side z).s1] (side : Int) = some (vi z) := by
          rw [at2 (by omega)]
          by_cases h : side = 0 <;> simp [Tw.setS, h]
        have I6 := I.deed (side := side) (d := dd) (by omega) hdd
        obtain ⟨dx, q1, q2, q3, q4, x1, x2, x3, x4, x5⟩ := L5.htw
        rw [← ez] at L5 I6
        have tail : ∀ H6, SameBut tw H5 H6 → TwAt CT H6 tw mx (vi f0) (vi nu) (.bl true) (s.setS side z) → LS K CT CM TT a0 (ns.map V.int) tb mx tw as T n f0 nu o a b c d e l0 l1 (s.setS side z) (s.setS side z) (addH side (i + 1, dd) h0 h1).1 (addH side (i + 1, dd) h0 h1).2 H6 ∧ BoxAt H6 bx := fun H6 sb tw6 => ⟨L5.twin sb hmt tw6, hb5.but sb f4⟩
        refine ⟨_, rfl, .inl ⟨_, rfl, _, _, rfl, rfl, by show (2 : Int) ≠ 0; decide, rfl, _, rfl, ite2 (fun _ => ?_) fun _ => ?_⟩⟩
        · refine ⟨_, rfl, tw, dx, _, rfl, x1, rfl, _, rfl, _, rfl, tw, mx, vi side, vi dd, vi f0, vi nu, .bl true, s, T, n, rfl, L5.htw, L5.mach, s0n, s1n, .int _, .inr ⟨side, by omega, rfl, .int _, .inr ⟨dd, hdd, rfl, fun H6 sb tw6 => ?_⟩⟩⟩
          rw [← ez] at tw6 ⊢
          obtain ⟨L6, hb6⟩ := tail H6 sb tw6
          refine ⟨vi z, dz, rfl, pz _, gz.sh, gz.nd, Nat.le_trans gz.dp (by decide), gz.fits (by decide), ?_⟩
          refine ⟨_, rfl, o, _, rfl, L6.own.states, _, rfl, a, _, _, _, rfl, rfl, SqL.of L6.own.ha, hat, vi z, dz, rfl, pz _, gz.sh, gz.nd, Nat.le_trans gz.dp (by decide), gz.fits (by decide), ?_⟩
          exact ⟨rfl, _, rfl, iteNS rfl ⟨_, _, _, _, _, l0, l1, _, _, _, rfl, L6, I6, hb6⟩⟩
        · refine ⟨_, rfl, tw, dx, _, rfl, x1, rfl, _, rfl, _, rfl, rfl, tw, mx, vi side, vi dd, vi f0, vi nu, .bl true, s, T, n, rfl, L5.htw, L5.mach, s0n, s1n, .int _, .inr ⟨side, by omega, rfl, .int _, .inr ⟨dd, hdd, rfl, fun H6 sb tw6 => ?_⟩⟩⟩
          rw [← ez] at tw6 ⊢
          obtain ⟨L6, hb6⟩ := tail H6 sb tw6
          refine ⟨vi z, dz, rfl, pz _, gz.sh, gz.nd, Nat.le_trans gz.dp (by decide), gz.fits (by decide), ?_⟩
          refine ⟨_, rfl, o, _, rfl, L6.own.states, _, rfl, a, _, _, _, rfl, rfl, SqL.of L6.own.ha, hat, vi z, dz, rfl, pz _, gz.sh, gz.nd, Nat.le_trans gz.dp (by decide), gz.fits (by decide), ?_⟩
          exact ⟨rfl, _, rfl, iteNS rfl ⟨_, _, _, _, _, l0, l1, _, _, _, rfl, L6, I6, hb6⟩⟩
      · -- a meeting
        refine ⟨fun σ H' => ∃ (side : Nat) (wh : Bool), σ = [some (.ref a0), some (.ref bx), some (.ref sm), some (vi nu), some (vi f0), some (.ref tb), some (.ref mx), some (.ref tw), some (.ref o), some (vi (i + 1)), some (vi side), o11, some (.bl wh), o13, o14] ∧ Same H H' ∧ BoxAt H' bx ∧ side ≤ 1 ∧ (side = 0 ∨ nu = 3), ?_, ?_⟩
        · refine ⟨_, rfl, rfl, _, rfl, ?_⟩
          by_cases h3 : nu = 3
          · refine iteD (by rw [h3] <;> rfl) ?_
            refine ⟨_, rfl, bx, 2, rfl, hb2, by decide, by decide, fun H3 side hsd s3 hb3 => ?_⟩
            refine ⟨_, rfl, bx, 5, rfl, hb3, by decide, by decide, fun H4 r4 hr4 s4 hb4 => ?_⟩
            exact ⟨_, _, rfl, rfl, _, _, rfl, side, _, rfl, same_box nb s1 ((s2.trans s3).trans s4), hb4, by omega, .inr h3⟩
          · refine iteDn (fun z => h3 (by injection z with z; omega)) ?_
            refine ⟨_, rfl, bx, 5, rfl, hb2, by decide, by decide, fun H4 r4 hr4 s4 hb4 => ?_⟩
            exact ⟨_, _, rfl, rfl, _, _, rfl, 0, _, rfl, same_box nb s1 (s2.trans s4), hb4, by omega, .inl rfl⟩
        · clear hb1 hb2 s1 s2
          rintro σ H4 ⟨side, wh, rfl, s04, hb4, hsd, hs3⟩
          have L4 := L.same s04
          obtain ⟨bs, z, hbs, hbm, hzm, ez, hE, hU⟩ := I.finds C hf
          obtain ⟨⟨nm0, nm1⟩, nl0, nl1⟩ := I.names
          have I6 := I.met C hf (by omega) hnu (wh := wh) hsd hs3 ez
          refine ⟨_, rfl, _, rfl, _, rfl, _, rfl, tb, o, a, b, c, d, e, l0, l1, nu, s, h0, h1, both h0 h1, as, T, n, side, wh, bs, z, rfl, L4.own, L4.htb, L4.tbo, L4.rows, hTab, s0n, s1n, hsd, hnu, hbs, by omega, hE, hU, by omega, fun H5 u0 u1 so own5 => ?_⟩
          have L5 := L4.own' so (fun x hx => .inl hx) own5
          have hb5 : BoxAt H5 bx := hb4.out so f1
          clear L4 hb4 so own5
          obtain ⟨dx, q1, q2, q3, q4, x1, x2, x3, x4, x5⟩ := L5.htw
          -- told
          refine ⟨fun σ H' => σ = [some (.ref a0), some (.ref bx), some (.ref sm), some (vi nu), some (vi f0), some (.ref tb), some (.ref mx), some (.ref tw), some (.ref o), some (vi (i + 1)), some (vi side), o11, some (.bl wh), some (vi z), some (vi z)] ∧
            LS K CT CM TT a0 (ns.map V.int) tb mx tw as T n f0 nu o a b c d e u0 u1 (meetS nu s side wh z) (meetS nu s side wh z) (metH side wh (both h0 h1) h0 h1).1 (metH side wh (both h0 h1) h0 h1).2 H' ∧ BoxAt H' bx, ?_, ?_⟩
          · have meets : ∀ (Q' : VK) (E' : XK), (∀ H', LS K CT CM TT a0 (ns.map V.int) tb mx tw as T n f0 nu o a b c d e u0 u1 (meetS nu s side wh z) (meetS nu s side wh z) (metH side wh (both h0 h1) h0 h1).1 (metH side wh (both h0 h1) h0 h1).2 H' → BoxAt H' bx → Q' (vi z) H') → spMeet K CT CM CR [.ref tw, vi side, .bl wh] H5 Q' E' := fun Q' E' k =>
              ⟨tw, mx, vi side, .bl wh, vi f0, nu, s, T, n, rfl, L5.htw, L5.mach, s0n, s1n, hnu, .int _, .inr ⟨side, hsd, rfl, .inr ⟨hs3, .inr ⟨wh, bs, z, rfl, hbs, by omega, hE, fun H' sb tw' => k H' (L5.twin sb hmt tw') (hb5.but sb f4)⟩⟩⟩⟩
            refine ⟨_, rfl, rfl, _, rfl, ?_⟩
            by_cases h1s : side = 1
            · refine iteD (by rw [h1s] <;> rfl) ?_
              exact ⟨_, rfl, tw, dx, _, rfl, x1, rfl, _, rfl, _, rfl, rfl, meets _ _ fun H' L' hb' => ⟨rfl, L', hb'⟩⟩
            · refine iteDn (fun z => h1s (by injection z with z; omega)) ?_
              cases wh with
              | false => exact ⟨_, rfl, _, rfl, iteT ⟨_, rfl, tw, dx, _, rfl, x1, rfl, _, rfl, _, rfl, rfl, meets _ _ fun H' L' hb' => ⟨rfl, L', hb'⟩⟩⟩
              | true =>
                have h0s : side = 0 := by omega
                subst h0s
                exact ⟨_, rfl, _, rfl, iteF ⟨_, rfl, tw, dx, _, rfl, x1, rfl, rfl, meets _ _ fun H' L' hb' => ⟨rfl, L', hb'⟩⟩⟩
          · rintro σ H6 ⟨rfl, L6, hb6⟩
            have hn12 := hTab.n12
            obtain ⟨dz, gz, pz⟩ : ∃ dz, Good dz 1 10 ∧ ∀ H', Dp K H' (vi z) dz := ⟨.int (z : Int), good_int (by omega), fun H' => .int _⟩
            refine ⟨_, rfl, vi z, dz, rfl, pz _, gz.sh, gz.nd, Nat.le_trans gz.dp (by decide), gz.fits (by decide), ?_⟩
            refine ⟨_, rfl, vi z, dz, rfl, pz _, gz.sh, gz.nd, Nat.le_trans gz.dp (by decide), gz.fits (by decide), ?_⟩
            exact ⟨rfl, _, rfl, iteNS rfl ⟨_, _, _, _, _, u0, u1, _, _, _, rfl, L6, I6, hb6⟩⟩
    · clear L I hb1 s1 nb low0 low1 s0n s1n f3 f5 f6 l0 l1 s h0 h1
      rintro σ H2 ⟨p10, p11, p12, p13, p14, l0, l1, s, h0, h1, rfl, L, I, hb⟩
      obtain ⟨low0, low1⟩ := I.low C hf
      have s0n : s.s0 < n := by omega
      have s1n : s.s1 < n := by omega
      have sm2 : TwSm s := I.small C hf (by omega) hnu
      obtain ⟨k0, k1⟩ := I.heard C hf (by omega)
      -- the same, and right
      refine ⟨fun σ H' => σ = [some (.ref a0), some (.ref bx), some (.ref sm), some (vi nu), some (vi f0), some (.ref tb), some (.ref mx), some (.ref tw), some (.ref o), some (vi (i + 1)), p10, p11, p12, p13, p14] ∧ LS K CT CM TT a0 (ns.map V.int) tb mx tw as T n f0 nu o a b c d e l0 l1 s s h0 h1 H' ∧ BoxAt H' bx, ?_, ?_⟩
      · refine ⟨_, rfl, _, rfl, tw, mx, o, a, b, c, d, e, l0, l1, vi f0, nu, s, h0, h1, rfl, L.htw, L.own, hnu, sm2, fun H3 s3 => ⟨_, rfl, iteF ?_⟩⟩
        have L3 := L.same s3
        refine ⟨_, rfl, _, rfl, _, rfl, tb, o, a, b, c, d, e, l0, l1, nu, s, h0, h1, as, T, n, f0, rfl, L3.own, L3.htb, L3.rows, hTab, hfn, k0, k1, fun H4 s4 => ⟨_, rfl, iteF ⟨rfl, L3.same s4, (hb.same s3).same s4⟩⟩⟩
      · clear L hb
        rintro σ H2 ⟨rfl, L, hb⟩
        -- strangers
        refine ⟨_, rfl, .inl ⟨_, rfl, _, _, rfl, rfl, by show (5 : Int) ≠ 0; decide, rfl, _, rfl, ite2 (fun _ => ?_) fun _ => ?_⟩⟩
        · refine ⟨_, rfl, _, rfl, _, rfl, _, rfl, bx, tw, mx, vi f0, nu, s, T, n, rfl, hb, L.htw, L.mach, s0n, s1n, hnu, sm2, L.tabs, fun H4 N4 hb4 hT4 => ⟨_, rfl, iteF ?_⟩⟩
          exact ⟨_, _, _, _, _, _, _, l0, l1, s, h0, h1, rfl, L.stay N4 hb f1 f2 (L.scr.box fS) hT4, I⟩
        · exact ⟨_, _, _, _, _, _, _, l0, l1, s, h0, h1, rfl, L, I⟩
  · rintro σ H ⟨o1, o9, o10, o11, o12, o13, o14, l0, l1, s, h0, h1, rfl, L, I⟩
    refine ⟨_, rfl, a0, ns, 1, rfl, L.scr.sq, by omega, by decide, fun H1 bx s1 nb hb1 => ?_⟩
    exact ⟨_, rfl, _, rfl, bx, mx, T, n, f0, rfl, hb1, L.mach.same s1, hfn, C.com hf, L.tabs.same s1, fun H' => q H'⟩
end
end K35
set_option maxHeartbeats 4000000
/-! How the calls by keywords bind; a def that makes lambdas. -/
namespace K35
open PySem PySem.Spec PyProof.Rows L2 LamX
section
variable {K : PySem.W.Frag} {f : Addr} {fd : FuncData}
abbrev FMeet (K : PySem.W.Frag) (f : Addr) (fd : FuncData) : Prop := FunD K "meet" "Twin.meet" (defArgs s_Twin_meet) (defBody s_Twin_meet) (defScope s_Twin_meet) [] [("side", .int 0), ("whole", .bl true)] f fd
abbrev FTwin (K : PySem.W.Frag) (f : Addr) (fd : FuncData) : Prop := FunD K "__init__" "Twin.__init__" (defArgs s_Twin_init) (defBody s_Twin_init) (defScope s_Twin_init) [] [("numbers", .int 2), ("keeps", .bl true)] f fd
theorem kb_meet_sw (F : FMeet K f fd) : ∃ g, KBn K fd ["self", "side", "whole"] 1 ["side", "whole"] g (fun vs zs => vs ++ zs) := by
  obtain ⟨mv, h⟩ := F.kbinds0 (ps := ["self", "side", "whole"]) 1 ["side", "whole"] [] (fun us _ ws => us ++ ws) (by simp) (by simp) (fun r _ r2 => r.append r2) fun D doc pm an cdv ct us mv ws l1 l2 l3 => match us, mv, ws, l1, l2, l3 with
    | [_], [], [_, _], _, _, _ => rfl
  exact ⟨_, h⟩
theorem kb_meet_w (F : FMeet K f fd) : ∃ g, KBn K fd ["self", "side", "whole"] 1 ["whole"] g (fun vs zs => vs ++ [.int 0] ++ zs) := by
  obtain ⟨mv, h⟩ := F.kbinds0 (ps := ["self", "side", "whole"]) 1 ["whole"] [("side", .int 0)] (fun us m ws => us ++ m ++ ws) (by simp) (by simp) (fun r m r2 => (r.append m).append r2) fun D doc pm an cdv ct us mv ws l1 l2 l3 => match us, mv, ws, l1, l2, l3 with
    | [_], [_], [_], _, _, _ => ⟨_, _, _, _, _, _, rfl, rfl, rfl⟩
  exact ⟨_, h⟩
theorem kb_meet (F : FMeet K f fd) : ∃ g, KBn K fd ["self", "side", "whole"] 1 [] g (fun vs zs => vs ++ [.int 0, .bl true]) := by
  obtain ⟨mv, h⟩ := F.kbinds0 (ps := ["self", "side", "whole"]) 1 [] [("side", .int 0), ("whole", .bl true)] (fun us m _ => us ++ m) (by simp) (by simp) (fun r m _ => r.append m) fun D doc pm an cdv ct us mv ws l1 l2 l3 => match us, mv, ws, l1, l2, l3 with
    | [_], [_, _], [], _, _, _ => ⟨_, _, _, _, _, _, rfl, rfl, _, _, _, _, _, _, rfl, rfl, rfl⟩
  exact ⟨_, h⟩
theorem kb_twin_n (F : FTwin K f fd) : ∃ g, KBn K fd ["self", "machine", "first", "numbers", "keeps"] 3 ["numbers"] g (fun vs zs => vs ++ zs ++ [.bl true]) := by
  obtain ⟨mv, h⟩ := F.kbinds0 (ps := ["self", "machine", "first", "numbers", "keeps"]) 3 ["numbers"] [("keeps", .bl true)] (fun us m ws => us ++ ws ++ m) (by simp) (by simp) (fun r m r2 => (r.append r2).append m) fun D doc pm an cdv ct us mv ws l1 l2 l3 => match us, mv, ws, l1, l2, l3 with
    | [_, _, _], [_], [_], _, _, _ => ⟨_, _, _, _, _, _, rfl, rfl, rfl⟩
  exact ⟨_, h⟩
theorem kb_twin_nk (F : FTwin K f fd) : ∃ g, KBn K fd ["self", "machine", "first", "numbers", "keeps"] 3 ["numbers", "keeps"] g (fun vs zs => vs ++ zs) := by
  obtain ⟨mv, h⟩ := F.kbinds0 (ps := ["self", "machine", "first", "numbers", "keeps"]) 3 ["numbers", "keeps"] [] (fun us _ ws => us ++ ws) (by simp) (by simp) (fun r _ r2 => r.append r2) fun D doc pm an cdv ct us mv ws l1 l2 l3 => match us, mv, ws, l1, l2, l3 with
    | [_, _, _], [], [_, _], _, _, _ => rfl
  exact ⟨_, h⟩
theorem kb_twin_k (F : FTwin K f fd) : ∃ g, KBn K fd ["self", "machine", "first", "numbers", "keeps"] 3 ["keeps"] g (fun vs zs => vs ++ [.int 2] ++ zs) := by
  obtain ⟨mv, h⟩ := F.kbinds0 (ps := ["self", "machine", "first", "numbers", "keeps"]) 3 ["keeps"] [("numbers", .int 2)] (fun us m ws => us ++ m ++ ws) (by simp) (by simp) (fun r m r2 => (r.append m).append r2) fun D doc pm an cdv ct us mv ws l1 l2 l3 => match us, mv, ws, l1, l2, l3 with
    | [_, _, _], [_], [_], _, _, _ => ⟨_, _, _, _, _, _, rfl, rfl, rfl⟩
  exact ⟨_, h⟩
theorem kb_twin_fm (F : FTwin K f fd) : ∃ g, KBn K fd ["self", "machine", "first", "numbers", "keeps"] 1 ["first", "machine"] g (fun vs zs => vs ++ zs.reverse ++ [.int 2, .bl true]) := by
  obtain ⟨mv, h⟩ := F.kbinds0 (ps := ["self", "machine", "first", "numbers", "keeps"]) 1 ["first", "machine"] [("numbers", .int 2), ("keeps", .bl true)] (fun us m ws => us ++ ws.reverse ++ m) (by simp) (by simp) (fun r m r2 => (r.append r2.reverse).append m) fun D doc pm an cdv ct us mv ws l1 l2 l3 => match us, mv, ws, l1, l2, l3 with
    | [_], [_, _], [_, _], _, _, _ => ⟨_, _, _, _, _, _, rfl, rfl, _, _, _, _, _, _, rfl, rfl, rfl⟩
  exact ⟨_, h⟩
theorem kb_do (F : Fd K "do" "Twin.do" s_Twin_do f fd) : ∃ g, KBn K fd ["self", "side", "deed"] 1 ["deed", "side"] g (fun vs zs => vs ++ zs.reverse) :=
  ⟨_, kbn_none (ps := ["self", "side", "deed"]) F 1 ["deed", "side"] (fun us ws => us ++ ws.reverse) (fun r r2 => r.append r2.reverse) fun kV doc pm an cdv ct us ws l1 l2 => match us, ws, l1, l2 with
    | [_], [_, _], _, _ => rfl⟩
end
theorem lamF_of {K : PySem.W.Frag} {base : Heap} {mg : Str → Option Value} {p : He.Defn} {x qual q : Str} {params : Arguments} {body : List Stmt} {scope : Scope} {dvs : List V} {kws : List (Str × V)} {fd : FuncData} {TT : List (Addr × Str)} (F : FunD K x qual params body scope dvs kws (He.fAd K p) fd)
    (TB : TabB base mg (He.cT K p).1 (He.cT K p).2) (mem : ((He.cT K p).2, q) ∈ TT) (u : ∀ r ∈ TT, r.1 = (He.cT K p).2 → r.2 = q) : LamF K base mg (He.fAd K p) q TT := by
  obtain ⟨oc, od, dV, kV, doc, pm, an, cdv, ct, osl, rfl, lk, hcd, _, _⟩ := F.ex
  obtain ⟨c, rfl⟩ := He.codeIn_ref hcd
  refine ⟨_, _, fun oc2 od2 fd2 osl2 lk2 => ?_, TB, mem, u⟩
  rw [lk] at lk2
  cases lk2
  show Value.ref c = .ref (He.codeOf K p)
  rw [He.codeOf_eq lk rfl]
end K35
set_option maxHeartbeats 0
namespace K35
open PySem PySem.Spec PyProof.Rows L2
/-! ### the defs as data -/
def d_is_integer : He.DefD := ⟨("is_integer", none), "is_integer", "is_integer", defArgs s_is_integer, defBody s_is_integer, defScope s_is_integer, [], []⟩
def d_is_number : He.DefD := ⟨("is_number", none), "is_number", "is_number", defArgs s_is_number, defBody s_is_number, defScope s_is_number, [], []⟩
def d_is_below : He.DefD := ⟨("is_below", none), "is_below", "is_below", defArgs s_is_below, defBody s_is_below, defScope s_is_below, [], []⟩
def d_is_sequence : He.DefD := ⟨("is_sequence", none), "is_sequence", "is_sequence", defArgs s_is_sequence, defBody s_is_sequence, defScope s_is_sequence, [], []⟩
def d_is_table : He.DefD := ⟨("is_table", none), "is_table", "is_table", defArgs s_is_table, defBody s_is_table, defScope s_is_table, [], []⟩
def d_check_tables : He.DefD := ⟨("check_tables", none), "check_tables", "check_tables", defArgs s_check_tables, defBody s_check_tables, defScope s_check_tables, [], []⟩
def d_Machine_init : He.DefD := ⟨("Machine", some "__init__"), "__init__", "Machine.__init__", defArgs s_Machine_init, defBody s_Machine_init, defScope s_Machine_init, [], []⟩
def d_Machine_eq : He.DefD := ⟨("Machine", some "__eq__"), "__eq__", "Machine.__eq__", defArgs s_Machine_eq, defBody s_Machine_eq, defScope s_Machine_eq, [], []⟩
def d_need_state : He.DefD := ⟨("need_state", none), "need_state", "need_state", defArgs s_need_state, defBody s_need_state, defScope s_need_state, [], []⟩
def d_need_deed : He.DefD := ⟨("need_deed", none), "need_deed", "need_deed", defArgs s_need_deed, defBody s_need_deed, defScope s_need_deed, [], []⟩
def d_orbit : He.DefD := ⟨("orbit", none), "orbit", "orbit", defArgs s_orbit, defBody s_orbit, defScope s_orbit, [], []⟩
def d_pair_rows : He.DefD := ⟨("pair_rows", none), "pair_rows", "pair_rows", defArgs s_pair_rows, defBody s_pair_rows, defScope s_pair_rows, [], []⟩
def d_ends_of : He.DefD := ⟨("ends_of", none), "ends_of", "ends_of", defArgs s_ends_of, defBody s_ends_of, defScope s_ends_of, [], []⟩
def d_join : He.DefD := ⟨("join", none), "join", "join", defArgs s_join, defBody s_join, defScope s_join, [], []⟩
def d_commuting_paper : He.DefD := ⟨("commuting_paper", none), "commuting_paper", "commuting_paper", defArgs s_commuting_paper, defBody s_commuting_paper, defScope s_commuting_paper, [], []⟩
def d_need_commuting : He.DefD := ⟨("need_commuting", none), "need_commuting", "need_commuting", defArgs s_need_commuting, defBody s_need_commuting, defScope s_need_commuting, [], []⟩
def d_Twin_init : He.DefD := ⟨("Twin", some "__init__"), "__init__", "Twin.__init__", defArgs s_Twin_init, defBody s_Twin_init, defScope s_Twin_init, [], [("numbers", .int 2), ("keeps", .bl true)]⟩
def d_Twin_need_side : He.DefD := ⟨("Twin", some "need_side"), "need_side", "Twin.need_side", defArgs s_Twin_need_side, defBody s_Twin_need_side, defScope s_Twin_need_side, [], []⟩
def d_Twin_do : He.DefD := ⟨("Twin", some "do"), "do", "Twin.do", defArgs s_Twin_do, defBody s_Twin_do, defScope s_Twin_do, [], []⟩
def d_Twin_ahead : He.DefD := ⟨("Twin", some "ahead"), "ahead", "Twin.ahead", defArgs s_Twin_ahead, defBody s_Twin_ahead, defScope s_Twin_ahead, [], []⟩
def d_Twin_base : He.DefD := ⟨("Twin", some "base"), "base", "Twin.base", defArgs s_Twin_base, defBody s_Twin_base, defScope s_Twin_base, [], []⟩
def d_Twin_meet : He.DefD := ⟨("Twin", some "meet"), "meet", "Twin.meet", defArgs s_Twin_meet, defBody s_Twin_meet, defScope s_Twin_meet, [], [("side", .int 0), ("whole", .bl true)]⟩
def d_put_in : He.DefD := ⟨("put_in", none), "put_in", "put_in", defArgs s_put_in, defBody s_put_in, defScope s_put_in, [], []⟩
def d_law_box : He.DefD := ⟨("_law_box", none), "_law_box", "_law_box", defArgs s_law_box, defBody s_law_box, defScope s_law_box, [], []⟩
def d_law_take : He.DefD := ⟨("_law_take", none), "_law_take", "_law_take", defArgs s_law_take, defBody s_law_take, defScope s_law_take, [], []⟩
def d_law_pick : He.DefD := ⟨("_law_pick", none), "_law_pick", "_law_pick", defArgs s_law_pick, defBody s_law_pick, defScope s_law_pick, [], []⟩
def d_law_machine : He.DefD := ⟨("_law_machine", none), "_law_machine", "_law_machine", defArgs s_law_machine, defBody s_law_machine, defScope s_law_machine, [], []⟩
def d_law_wider : He.DefD := ⟨("_law_wider", none), "_law_wider", "_law_wider", defArgs s_law_wider, defBody s_law_wider, defScope s_law_wider, [], []⟩
def d_law_led : He.DefD := ⟨("_law_led", none), "_law_led", "_law_led", defArgs s_law_led, defBody s_law_led, defScope s_law_led, [], []⟩
def d_law_rows : He.DefD := ⟨("_law_rows", none), "_law_rows", "_law_rows", defArgs s_law_rows, defBody s_law_rows, defScope s_law_rows, [], []⟩
def d_law_heard : He.DefD := ⟨("_law_heard", none), "_law_heard", "_law_heard", defArgs s_law_heard, defBody s_law_heard, defScope s_law_heard, [], []⟩
def d_law_new : He.DefD := ⟨("_law_new", none), "_law_new", "_law_new", defArgs s_law_new, defBody s_law_new, defScope s_law_new, [], []⟩
def d_law_ahead : He.DefD := ⟨("_law_ahead", none), "_law_ahead", "_law_ahead", defArgs s_law_ahead, defBody s_law_ahead, defScope s_law_ahead, [], []⟩
def d_law_do : He.DefD := ⟨("_law_do", none), "_law_do", "_law_do", defArgs s_law_do, defBody s_law_do, defScope s_law_do, [], []⟩
def d_law_meet : He.DefD := ⟨("_law_meet", none), "_law_meet", "_law_meet", defArgs s_law_meet, defBody s_law_meet, defScope s_law_meet, [], []⟩
def d_law_right : He.DefD := ⟨("_law_right", none), "_law_right", "_law_right", defArgs s_law_right, defBody s_law_right, defScope s_law_right, [], []⟩
def d_law_same : He.DefD := ⟨("_law_same", none), "_law_same", "_law_same", defArgs s_law_same, defBody s_law_same, defScope s_law_same, [], []⟩
def d_law_strangers_right : He.DefD := ⟨("_law_strangers_right", none), "_law_strangers_right", "_law_strangers_right", defArgs s_law_strangers_right, defBody s_law_strangers_right, defScope s_law_strangers_right, [], []⟩
def d_law_made_right : He.DefD := ⟨("_law_made_right", none), "_law_made_right", "_law_made_right", defArgs s_law_made_right, defBody s_law_made_right, defScope s_law_made_right, [], []⟩
def d_law : He.DefD := ⟨("law", none), "law", "law", defArgs s_law, defBody s_law, defScope s_law, [], []⟩
def fn : List He.DefD := [d_is_integer, d_is_number, d_is_below, d_is_sequence, d_is_table, d_check_tables, d_Machine_init, d_Machine_eq, d_need_state, d_need_deed, d_orbit, d_pair_rows, d_ends_of, d_join, d_commuting_paper, d_need_commuting, d_Twin_init, d_Twin_need_side, d_Twin_do, d_Twin_ahead, d_Twin_base, d_Twin_meet, d_put_in, d_law_box, d_law_take, d_law_pick, d_law_machine, d_law_wider, d_law_led, d_law_rows, d_law_heard, d_law_new, d_law_ahead, d_law_do, d_law_meet, d_law_right, d_law_same, d_law_strangers_right, d_law_made_right, d_law]

def fa : List He.Fa := ([.glo "is_integer", .glo "is_number", .glo "is_below", .glo "is_sequence", .glo "is_table", .glo "check_tables", .glo "Machine", .glo "need_state", .glo "need_deed", .glo "orbit", .glo "pair_rows", .glo "ends_of", .glo "join", .glo "commuting_paper", .glo "need_commuting", .glo "Twin", .glo "put_in", .glo "_law_box", .glo "_law_take", .glo "_law_pick"] : List He.Fa) ++ ([.glo "_law_machine", .glo "_law_wider", .glo "_law_led", .glo "_law_rows", .glo "_law_heard", .glo "_law_new", .glo "_law_ahead", .glo "_law_do", .glo "_law_meet", .glo "_law_right", .glo "_law_same", .glo "_law_strangers_right", .glo "_law_made_right", .glo "law", .glo "BadMachine", .glo "Refused", .glo "Untold", .glo "Uncommuting", .glo "NoState", .glo "NoDeed"] : List He.Fa) ++ ([.glo "NetError", .free "isinstance", .free "int", .free "bool", .free "list", .free "tuple", .free "len", .free "all", .free "enumerate", .free "sorted", .free "abs", .free "range", .free "max", .free "min", .free "repr", .free "dict", .free "super", .int "MOST_DEEDS" 8, .int "MOST_STATES" 12, .cls "Machine"] : List He.Fa) ++ ([.cls "Twin", .mkr "Machine", .mkr "Twin", .noat "Machine" "tables", .noat "Machine" "deeds", .noat "Machine" "states", .meth "Machine" "__eq__", .noat "Twin" "machine", .noat "Twin" "first", .noat "Twin" "numbers", .noat "Twin" "keeps", .noat "Twin" "states", .noat "Twin" "copies", .noat "Twin" "marks", .noat "Twin" "kept", .meth "Twin" "need_side", .meth "Twin" "do", .meth "Twin" "ahead", .meth "Twin" "base", .meth "Twin" "meet"] : List He.Fa) ++ ([.exm "NoState" "NoState" true, .exm "NoState" "NoDeed" false, .exm "NoState" "Uncommuting" false, .exm "NoState" "Refused" false, .keep "NoState", .exm "NoDeed" "NoState" false, .exm "NoDeed" "NoDeed" true, .exm "NoDeed" "Uncommuting" false, .exm "NoDeed" "Refused" false, .keep "NoDeed", .exm "Uncommuting" "NoState" false, .exm "Uncommuting" "NoDeed" false, .exm "Uncommuting" "Uncommuting" true, .exm "Uncommuting" "Refused" false, .keep "Uncommuting", .exm "Refused" "NoState" false, .exm "Refused" "NoDeed" false, .exm "Refused" "Uncommuting" false, .exm "Refused" "Refused" true, .keep "Refused"] : List He.Fa) ++ ([.noat "Refused" "at", .noat "Uncommuting" "state", .noat "Uncommuting" "one", .noat "Uncommuting" "other", .noat "NoState" "state", .noat "NoDeed" "deed"] : List He.Fa)
def tf : List He.Defn := [("_law_strangers_right", none), ("_law_made_right", none)]
def nsl : List Str := ["Machine"]
def x_Refused : XD0 := ⟨"Refused", HandSPX.veTail, "ValueError.__new__", "ValueError", "ValueError.__init__", "Refused.__init__", s_Refused_init⟩
def x_Uncommuting : XD0 := ⟨"Uncommuting", HandSPX.veTail, "ValueError.__new__", "ValueError", "ValueError.__init__", "Uncommuting.__init__", s_Uncommuting_init⟩
def x_NoState : XD0 := ⟨"NoState", keTail, "LookupError.__new__", "KeyError", "KeyError.__init__", "NoState.__init__", s_NoState_init⟩
def x_NoDeed : XD0 := ⟨"NoDeed", keTail, "LookupError.__new__", "KeyError", "KeyError.__init__", "NoDeed.__init__", s_NoDeed_init⟩
def xs : List XD0 := [x_Refused, x_Uncommuting, x_NoState, x_NoDeed]
abbrev R : PySem.W.OpenRow := PySem.W.OpenLaw.row PySem.Challenge.rw_houseslessties_k35_whole_meetings_that_b
abbrev hk : PySem.W.Hook := hookS Pg 4 fa fn xs tf nsl
def ob (s : PySem.W.SharedT) : AlS := obsS Pg 4 fa fn xs tf nsl (HandSHeadRun.getT s)
theorem ob_eq (s : PySem.W.SharedT) : ob s = hk.obs s.abs := obsS_eq (HandSHeadRun.getT_eq s)
def loose : List PySem.Str := (["is_integer", "is_number", "is_below", "is_sequence", "is_table", "check_tables", "Machine", "need_state", "need_deed", "orbit", "pair_rows", "ends_of", "join", "commuting_paper", "need_commuting", "Twin", "put_in", "_law_box", "_law_take", "_law_pick", "_law_machine", "_law_wider", "_law_led", "_law_rows", "_law_heard", "_law_new", "_law_ahead", "_law_do", "_law_meet", "_law_right"] : List PySem.Str) ++ (["_law_same", "_law_strangers_right", "_law_made_right", "BadMachine", "Refused", "Untold", "Uncommuting", "NoState", "NoDeed", "NetError", "MOST_DEEDS", "MOST_STATES"] : List PySem.Str)
theorem headRun (w : World) : HandSHeadRun.RunEq R (PySem.W.view R.prog [49]) hk ob 4000 loose w := by
  intro os
  kernel_rfl
end K35
set_option maxHeartbeats 4000000
/-! The end: each def at its place keeps its promise, from what the head's Hook says. -/
namespace K35
open PySem PySem.Spec PyProof.Rows L2 LamX
def csOf (K : PySem.W.Frag) : List (Addr × Addr) := tf.map (He.cT K)
def ttOf (K : PySem.W.Frag) : List (Addr × Str) := [((He.cT K ("_law_strangers_right", none)).2, "_law_strangers_right.<locals>.<lambda>"), ((He.cT K ("_law_made_right", none)).2, "_law_made_right.<locals>.<lambda>")]
section
variable {w : World} {K : PySem.W.Frag} {h : Heap} {mg : Str → Option Value} {base : Heap}

theorem end_bu (X : K.In h) (G : h.Ns mainGlobals mg) (c : SaysS Pg fa fn xs tf nsl h K) : Bu mg :=
  ⟨He.free_ok X G (c.d.fact 41 rfl), He.free_ok X G (c.d.fact 42 rfl), He.free_ok X G (c.d.fact 43 rfl), He.free_ok X G (c.d.fact 44 rfl), He.free_ok X G (c.d.fact 45 rfl), He.free_ok X G (c.d.fact 46 rfl), He.free_ok X G (c.d.fact 47 rfl), He.free_ok X G (c.d.fact 48 rfl), He.free_ok X G (c.d.fact 49 rfl), He.free_ok X G (c.d.fact 50 rfl), He.free_ok X G (c.d.fact 51 rfl), He.free_ok X G (c.d.fact 52 rfl), He.free_ok X G (c.d.fact 53 rfl), He.free_ok X G (c.d.fact 54 rfl), He.free_ok X G (c.d.fact 55 rfl), He.int_ok X G (c.d.fact 57 rfl), He.int_ok X G (c.d.fact 58 rfl)⟩
theorem end_mf (c : SaysS Pg fa fn xs tf nsl h K) : MF K (He.ga K "Machine") := ⟨He.cls_ok (c.d.fact 59 rfl), He.noat_ok (c.d.fact 63 rfl), He.noat_ok (c.d.fact 64 rfl), He.noat_ok (c.d.fact 65 rfl)⟩
theorem end_tf (c : SaysS Pg fa fn xs tf nsl h K) : TF K (He.ga K "Twin") := ⟨He.cls_ok (c.d.fact 60 rfl), He.noat_ok (c.d.fact 67 rfl), He.noat_ok (c.d.fact 68 rfl), He.noat_ok (c.d.fact 69 rfl), He.noat_ok (c.d.fact 70 rfl), He.noat_ok (c.d.fact 71 rfl), He.noat_ok (c.d.fact 72 rfl), He.noat_ok (c.d.fact 73 rfl), He.noat_ok (c.d.fact 74 rfl)⟩
theorem end_xRefused (c : SaysS Pg fa fn xs tf nsl h K) : XC K (He.ga K "Refused") "ValueError" "ValueError.__new__" "ValueError" "ValueError.__init__" HandSPX.veTail ∧ XfC K (He.ga K "Refused") :=
  xc_of (d := x_Refused) (B := "ValueError") (c.xc x_Refused (by simp [xs])) ⟨_, _, PySem.F.excBase_ValueError⟩ PySem.W.kxs_ValueError veInit vePass (by decide +kernel) (by decide +kernel) (by decide +kernel) (by decide +kernel)
theorem end_rRefused (X : K.In h) (G : h.Ns mainGlobals mg) (c : SaysS Pg fa fn xs tf nsl h K) : RxAt Pg w K mg "Refused" (He.ga K "Refused") ["at"] :=
  rx_Refused (end_xRefused c).1 (c.xiAt 0) (He.free_ok X G (c.d.fact 56 rfl)) (He.noat_ok (c.d.fact 100 rfl)) (He.glo_ok X G (c.d.fact 35 rfl))
theorem end_xUncommuting (c : SaysS Pg fa fn xs tf nsl h K) : XC K (He.ga K "Uncommuting") "ValueError" "ValueError.__new__" "ValueError" "ValueError.__init__" HandSPX.veTail ∧ XfC K (He.ga K "Uncommuting") :=
  xc_of (d := x_Uncommuting) (B := "ValueError") (c.xc x_Uncommuting (by simp [xs])) ⟨_, _, PySem.F.excBase_ValueError⟩ PySem.W.kxs_ValueError veInit vePass (by decide +kernel) (by decide +kernel) (by decide +kernel) (by decide +kernel)
theorem end_rUncommuting (X : K.In h) (G : h.Ns mainGlobals mg) (c : SaysS Pg fa fn xs tf nsl h K) : RxAt Pg w K mg "Uncommuting" (He.ga K "Uncommuting") ["state", "one", "other"] :=
  rx_Uncommuting (end_xUncommuting c).1 (c.xiAt 1) (He.free_ok X G (c.d.fact 56 rfl)) (He.noat_ok (c.d.fact 101 rfl)) (He.noat_ok (c.d.fact 102 rfl)) (He.noat_ok (c.d.fact 103 rfl)) (He.glo_ok X G (c.d.fact 37 rfl))
theorem end_xNoState (c : SaysS Pg fa fn xs tf nsl h K) : XC K (He.ga K "NoState") "LookupError" "LookupError.__new__" "KeyError" "KeyError.__init__" keTail ∧ XfC K (He.ga K "NoState") :=
  xc_of (d := x_NoState) (B := "LookupError") (c.xc x_NoState (by simp [xs])) ⟨_, _, PySem.F.excBase_LookupError⟩ keKxs keInit kePass (by decide +kernel) (by decide +kernel) (by decide +kernel) (by decide +kernel)
theorem end_rNoState (X : K.In h) (G : h.Ns mainGlobals mg) (c : SaysS Pg fa fn xs tf nsl h K) : RxAt Pg w K mg "NoState" (He.ga K "NoState") ["state"] :=
  rx_NoState (end_xNoState c).1 (c.xiAt 2) (He.free_ok X G (c.d.fact 56 rfl)) (He.noat_ok (c.d.fact 104 rfl)) (He.glo_ok X G (c.d.fact 38 rfl))
theorem end_xNoDeed (c : SaysS Pg fa fn xs tf nsl h K) : XC K (He.ga K "NoDeed") "LookupError" "LookupError.__new__" "KeyError" "KeyError.__init__" keTail ∧ XfC K (He.ga K "NoDeed") :=
  xc_of (d := x_NoDeed) (B := "LookupError") (c.xc x_NoDeed (by simp [xs])) ⟨_, _, PySem.F.excBase_LookupError⟩ keKxs keInit kePass (by decide +kernel) (by decide +kernel) (by decide +kernel) (by decide +kernel)
theorem end_rNoDeed (X : K.In h) (G : h.Ns mainGlobals mg) (c : SaysS Pg fa fn xs tf nsl h K) : RxAt Pg w K mg "NoDeed" (He.ga K "NoDeed") ["deed"] :=
  rx_NoDeed (end_xNoDeed c).1 (c.xiAt 3) (He.free_ok X G (c.d.fact 56 rfl)) (He.noat_ok (c.d.fact 105 rfl)) (He.glo_ok X G (c.d.fact 39 rfl))
theorem end_xm (X : K.In h) (G : h.Ns mainGlobals mg) (c : SaysS Pg fa fn xs tf nsl h K) : XM K mg (He.ga K "NoState") (He.ga K "NoDeed") (He.ga K "Uncommuting") (He.ga K "Refused") :=
  ⟨He.glo_ok X G (c.d.fact 38 rfl), He.glo_ok X G (c.d.fact 39 rfl), He.glo_ok X G (c.d.fact 37 rfl), He.glo_ok X G (c.d.fact 35 rfl), He.exm_ok (c.d.fact 80 rfl), He.exm_ok (c.d.fact 85 rfl), He.exm_ok (c.d.fact 86 rfl), He.exm_ok (c.d.fact 90 rfl), He.exm_ok (c.d.fact 91 rfl), He.exm_ok (c.d.fact 92 rfl), He.exm_ok (c.d.fact 95 rfl), He.exm_ok (c.d.fact 96 rfl), He.exm_ok (c.d.fact 97 rfl), He.exm_ok (c.d.fact 98 rfl), (end_xNoState c).2, (end_xNoDeed c).2, (end_xUncommuting c).2, (end_xRefused c).2, He.noat_ok (c.d.fact 104 rfl), He.noat_ok (c.d.fact 105 rfl), He.noat_ok (c.d.fact 101 rfl), He.noat_ok (c.d.fact 102 rfl), He.noat_ok (c.d.fact 103 rfl), He.noat_ok (c.d.fact 100 rfl)⟩
theorem chain (X : K.In h) (G : h.Ns mainGlobals mg) (c : SaysS Pg fa fn xs tf nsl h K) : ∃ fd : FuncData, (∀ (s : Shared) (u : Value), BindsTo s fd ⟨[u], []⟩ [("_law_script", u)]) ∧
    ∀ base : Heap, (∀ p ∈ csOf K, TabB base mg p.1 p.2) → FnG Pg w K mg base (L2.CX Pg w) 13 (He.ga K "law") fd ["_law_script"] (spLaw K (ttOf K)) := by
  have B := end_bu X G c
  have M := end_mf c
  have TC := end_tf c
  have XF := end_xm X G c
  have R_Refused := end_rRefused (w := w) X G c
  have R_Uncommuting := end_rUncommuting (w := w) X G c
  have R_NoState := end_rNoState (w := w) X G c
  have R_NoDeed := end_rNoDeed (w := w) X G c
  have hsuper := He.free_ok X G (c.d.fact 56 rfl)
  obtain ⟨fd_is_integer, F_is_integer⟩ := c.d.def_ 0 rfl
  obtain ⟨fd_is_number, F_is_number⟩ := c.d.def_ 1 rfl
  obtain ⟨fd_is_below, F_is_below⟩ := c.d.def_ 2 rfl
  obtain ⟨fd_is_sequence, F_is_sequence⟩ := c.d.def_ 3 rfl
  obtain ⟨fd_is_table, F_is_table⟩ := c.d.def_ 4 rfl
  obtain ⟨fd_check_tables, F_check_tables⟩ := c.d.def_ 5 rfl
  obtain ⟨fd_Machine_init, F_Machine_init⟩ := c.d.def_ 6 rfl
  obtain ⟨fd_Machine_eq, F_Machine_eq⟩ := c.d.def_ 7 rfl
  obtain ⟨fd_need_state, F_need_state⟩ := c.d.def_ 8 rfl
  obtain ⟨fd_need_deed, F_need_deed⟩ := c.d.def_ 9 rfl
  obtain ⟨fd_orbit, F_orbit⟩ := c.d.def_ 10 rfl
  obtain ⟨fd_pair_rows, F_pair_rows⟩ := c.d.def_ 11 rfl
  obtain ⟨fd_ends_of, F_ends_of⟩ := c.d.def_ 12 rfl
  obtain ⟨fd_join, F_join⟩ := c.d.def_ 13 rfl
  obtain ⟨fd_commuting_paper, F_commuting_paper⟩ := c.d.def_ 14 rfl
  obtain ⟨fd_need_commuting, F_need_commuting⟩ := c.d.def_ 15 rfl
  obtain ⟨fd_Twin_init, F_Twin_init⟩ := c.d.def_ 16 rfl
  obtain ⟨fd_Twin_need_side, F_Twin_need_side⟩ := c.d.def_ 17 rfl
  obtain ⟨fd_Twin_do, F_Twin_do⟩ := c.d.def_ 18 rfl
  obtain ⟨fd_Twin_ahead, F_Twin_ahead⟩ := c.d.def_ 19 rfl
  obtain ⟨fd_Twin_base, F_Twin_base⟩ := c.d.def_ 20 rfl
  obtain ⟨fd_Twin_meet, F_Twin_meet⟩ := c.d.def_ 21 rfl
  obtain ⟨fd_put_in, F_put_in⟩ := c.d.def_ 22 rfl
  obtain ⟨fd_law_box, F_law_box⟩ := c.d.def_ 23 rfl
  obtain ⟨fd_law_take, F_law_take⟩ := c.d.def_ 24 rfl
  obtain ⟨fd_law_pick, F_law_pick⟩ := c.d.def_ 25 rfl
  obtain ⟨fd_law_machine, F_law_machine⟩ := c.d.def_ 26 rfl
  obtain ⟨fd_law_wider, F_law_wider⟩ := c.d.def_ 27 rfl
  obtain ⟨fd_law_led, F_law_led⟩ := c.d.def_ 28 rfl
  obtain ⟨fd_law_rows, F_law_rows⟩ := c.d.def_ 29 rfl
  obtain ⟨fd_law_heard, F_law_heard⟩ := c.d.def_ 30 rfl
  obtain ⟨fd_law_new, F_law_new⟩ := c.d.def_ 31 rfl
  obtain ⟨fd_law_ahead, F_law_ahead⟩ := c.d.def_ 32 rfl
  obtain ⟨fd_law_do, F_law_do⟩ := c.d.def_ 33 rfl
  obtain ⟨fd_law_meet, F_law_meet⟩ := c.d.def_ 34 rfl
  obtain ⟨fd_law_right, F_law_right⟩ := c.d.def_ 35 rfl
  obtain ⟨fd_law_same, F_law_same⟩ := c.d.def_ 36 rfl
  obtain ⟨fd_law_strangers_right, F_law_strangers_right⟩ := c.d.def_ 37 rfl
  obtain ⟨fd_law_made_right, F_law_made_right⟩ := c.d.def_ 38 rfl
  obtain ⟨fd_law, F_law⟩ := c.d.def_ 39 rfl
  have bL := FunD.bindsA (ps := ["_law_script"]) F_law fun _ _ _ _ _ _ us hl => match us, hl with | [_], _ => rfl
  refine ⟨fd_law, fun s u => bL s [u] rfl, fun base TBs => ?_⟩
  have C_is_integer : Cal Pg w K mg base 1 "is_integer" ["value"] (spIsInteger K) := ⟨⟨_, fd_is_integer, He.glo_ok X G (c.d.fact 0 rfl), F_is_integer.kp, (F_is_integer.bindsN fun _ _ _ _ _ _ us hl => match us, hl with | [_], _ => rfl), ok_is_integer F_is_integer B⟩⟩
  have C_is_number : Cal Pg w K mg base 2 "is_number" ["value"] (spIsNumber K) := ⟨⟨_, fd_is_number, He.glo_ok X G (c.d.fact 1 rfl), F_is_number.kp, (F_is_number.bindsN fun _ _ _ _ _ _ us hl => match us, hl with | [_], _ => rfl), ok_is_number F_is_number C_is_integer⟩⟩
  have C_is_below : Cal Pg w K mg base 3 "is_below" ["value", "most"] (spIsBelow K) := ⟨⟨_, fd_is_below, He.glo_ok X G (c.d.fact 2 rfl), F_is_below.kp, (F_is_below.bindsN fun _ _ _ _ _ _ us hl => match us, hl with | [_, _], _ => rfl), ok_is_below F_is_below C_is_number⟩⟩
  have C_is_sequence : Cal Pg w K mg base 1 "is_sequence" ["value"] spIsSequence := ⟨⟨_, fd_is_sequence, He.glo_ok X G (c.d.fact 3 rfl), F_is_sequence.kp, (F_is_sequence.bindsN fun _ _ _ _ _ _ us hl => match us, hl with | [_], _ => rfl), ok_is_sequence F_is_sequence B⟩⟩
  have C_is_table : Cal Pg w K mg base 4 "is_table" ["value", "states"] spIsTable := ⟨⟨_, fd_is_table, He.glo_ok X G (c.d.fact 4 rfl), F_is_table.kp, (F_is_table.bindsN fun _ _ _ _ _ _ us hl => match us, hl with | [_, _], _ => rfl), ok_is_table F_is_table B C_is_sequence C_is_below⟩⟩
  have C_check_tables : Cal Pg w K mg base 5 "check_tables" ["value"] spCheck := ⟨⟨_, fd_check_tables, He.glo_ok X G (c.d.fact 5 rfl), F_check_tables.kp, (F_check_tables.bindsN fun _ _ _ _ _ _ us hl => match us, hl with | [_], _ => rfl), ok_check_tables F_check_tables B C_is_sequence C_is_table⟩⟩
  have C_need_state : Cal Pg w K mg base 4 "need_state" ["machine", "state"] (spNeedState K (He.ga K "Machine") (He.ga K "NoState")) := ⟨⟨_, fd_need_state, He.glo_ok X G (c.d.fact 7 rfl), F_need_state.kp, (F_need_state.bindsN fun _ _ _ _ _ _ us hl => match us, hl with | [_, _], _ => rfl), ok_need_state F_need_state M C_is_below R_NoState⟩⟩
  have C_need_deed : Cal Pg w K mg base 4 "need_deed" ["machine", "deed"] (spNeedDeed K (He.ga K "Machine") (He.ga K "NoDeed")) := ⟨⟨_, fd_need_deed, He.glo_ok X G (c.d.fact 8 rfl), F_need_deed.kp, (F_need_deed.bindsN fun _ _ _ _ _ _ us hl => match us, hl with | [_, _], _ => rfl), ok_need_deed F_need_deed M C_is_below R_NoDeed⟩⟩
  have C_orbit : Cal Pg w K mg base 5 "orbit" ["machine", "state"] (spOrbit (He.ga K "Machine")) := ⟨⟨_, fd_orbit, He.glo_ok X G (c.d.fact 9 rfl), F_orbit.kp, (F_orbit.bindsN fun _ _ _ _ _ _ us hl => match us, hl with | [_, _], _ => rfl), ok_orbit F_orbit B M C_need_state⟩⟩
  have C_pair_rows : Cal Pg w K mg base 1 "pair_rows" ["machine", "one", "other"] (spPairRows (He.ga K "Machine")) := ⟨⟨_, fd_pair_rows, He.glo_ok X G (c.d.fact 10 rfl), F_pair_rows.kp, (F_pair_rows.bindsN fun _ _ _ _ _ _ us hl => match us, hl with | [_, _, _], _ => rfl), ok_pair_rows F_pair_rows B M⟩⟩
  have C_ends_of : Cal Pg w K mg base 2 "ends_of" ["machine", "archive", "here", "there"] (spEnds (He.ga K "Machine")) := ⟨⟨_, fd_ends_of, He.glo_ok X G (c.d.fact 11 rfl), F_ends_of.kp, (F_ends_of.bindsN fun _ _ _ _ _ _ us hl => match us, hl with | [_, _, _, _], _ => rfl), ok_ends_of F_ends_of B C_pair_rows⟩⟩
  have C_join : Cal Pg w K mg base 5 "join" ["machine", "archive", "here", "there"] (spJoin (He.ga K "Machine")) := ⟨⟨_, fd_join, He.glo_ok X G (c.d.fact 12 rfl), F_join.kp, (F_join.bindsN fun _ _ _ _ _ _ us hl => match us, hl with | [_, _, _, _], _ => rfl), ok_join F_join B C_need_state C_ends_of⟩⟩
  have C_commuting_paper : Cal Pg w K mg base 6 "commuting_paper" ["machine", "state"] (spPaper (He.ga K "Machine")) := ⟨⟨_, fd_commuting_paper, He.glo_ok X G (c.d.fact 13 rfl), F_commuting_paper.kp, (F_commuting_paper.bindsN fun _ _ _ _ _ _ us hl => match us, hl with | [_, _], _ => rfl), ok_commuting_paper F_commuting_paper B M C_orbit⟩⟩
  have C_need_commuting : Cal Pg w K mg base 7 "need_commuting" ["machine", "state"] (spNeedCom (He.ga K "Machine") (He.ga K "Uncommuting")) := ⟨⟨_, fd_need_commuting, He.glo_ok X G (c.d.fact 14 rfl), F_need_commuting.kp, (F_need_commuting.bindsN fun _ _ _ _ _ _ us hl => match us, hl with | [_, _], _ => rfl), ok_need_commuting F_need_commuting B C_commuting_paper R_Uncommuting⟩⟩
  have C_put_in : Cal Pg w K mg base 1 "put_in" ["pair", "at", "item"] spPutIn := ⟨⟨_, fd_put_in, He.glo_ok X G (c.d.fact 16 rfl), F_put_in.kp, (F_put_in.bindsN fun _ _ _ _ _ _ us hl => match us, hl with | [_, _, _], _ => rfl), ok_put_in F_put_in⟩⟩
  have M_need_side : Met Pg w K mg base 2 (He.ga K "Twin") "need_side" ["self", "side"] (spNeedSide K (He.ga K "Refused")) := ⟨⟨_, fd_Twin_need_side, He.meth_ok (c.d.fact 75 rfl), (F_Twin_need_side.bindsN fun _ _ _ _ _ _ us hl => match us, hl with | [_, _], _ => rfl), ok_Twin_need_side F_Twin_need_side C_is_integer R_Refused⟩⟩
  have M_ahead : Met Pg w K mg base 1 (He.ga K "Twin") "ahead" ["self"] (spAhead (He.ga K "Twin")) := ⟨⟨_, fd_Twin_ahead, He.meth_ok (c.d.fact 77 rfl), (F_Twin_ahead.bindsN fun _ _ _ _ _ _ us hl => match us, hl with | [_], _ => rfl), ok_Twin_ahead F_Twin_ahead TC⟩⟩
  have M_base : Met Pg w K mg base 2 (He.ga K "Twin") "base" ["self"] (spBase (He.ga K "Twin")) := ⟨⟨_, fd_Twin_base, He.meth_ok (c.d.fact 78 rfl), (F_Twin_base.bindsN fun _ _ _ _ _ _ us hl => match us, hl with | [_], _ => rfl), ok_Twin_base F_Twin_base TC M_ahead⟩⟩
  have K_do : FnOk Pg w K mg base (L2.CX Pg w) 5 _ fd_Twin_do ["self", "side", "deed"] (spDo K (He.ga K "Twin") (He.ga K "Machine") (He.ga K "Refused") (He.ga K "NoDeed")) := ok_Twin_do F_Twin_do TC M M_need_side C_need_deed C_put_in
  have M_do : Met Pg w K mg base 5 (He.ga K "Twin") "do" ["self", "side", "deed"] (spDo K (He.ga K "Twin") (He.ga K "Machine") (He.ga K "Refused") (He.ga K "NoDeed")) := ⟨⟨_, fd_Twin_do, He.meth_ok (c.d.fact 76 rfl), (F_Twin_do.bindsN fun _ _ _ _ _ _ us hl => match us, hl with | [_, _, _], _ => rfl), K_do⟩⟩
  have KM_do_deed_side : MetK Pg w K mg base 5 (He.ga K "Twin") "do" ["self", "side", "deed"] (spDo K (He.ga K "Twin") (He.ga K "Machine") (He.ga K "Refused") (He.ga K "NoDeed")) ["deed", "side"] (fun vs zs => vs ++ zs.reverse) := let ⟨g, kb⟩ := kb_do F_Twin_do; ⟨⟨_, fd_Twin_do, g, He.meth_ok (c.d.fact 76 rfl), kb, K_do⟩⟩
  have K_meet : FnOk Pg w K mg base (L2.CX Pg w) 6 _ fd_Twin_meet ["self", "side", "whole"] (spMeet K (He.ga K "Twin") (He.ga K "Machine") (He.ga K "Refused")) := ok_Twin_meet F_Twin_meet B TC M R_Refused M_need_side M_ahead M_base C_join C_put_in
  have KM_meet_side_whole : MetK Pg w K mg base 6 (He.ga K "Twin") "meet" ["self", "side", "whole"] (spMeet K (He.ga K "Twin") (He.ga K "Machine") (He.ga K "Refused")) ["side", "whole"] (fun vs zs => vs ++ zs) := let ⟨g, kb⟩ := kb_meet_sw F_Twin_meet; ⟨⟨_, fd_Twin_meet, g, He.meth_ok (c.d.fact 79 rfl), kb, K_meet⟩⟩
  have KM_meet_whole : MetK Pg w K mg base 6 (He.ga K "Twin") "meet" ["self", "side", "whole"] (spMeet K (He.ga K "Twin") (He.ga K "Machine") (He.ga K "Refused")) ["whole"] (fun vs zs => vs ++ [.int 0] ++ zs) := let ⟨g, kb⟩ := kb_meet_w F_Twin_meet; ⟨⟨_, fd_Twin_meet, g, He.meth_ok (c.d.fact 79 rfl), kb, K_meet⟩⟩
  have KM_meet : MetK Pg w K mg base 6 (He.ga K "Twin") "meet" ["self", "side", "whole"] (spMeet K (He.ga K "Twin") (He.ga K "Machine") (He.ga K "Refused")) [] (fun vs zs => vs ++ [.int 0, .bl true]) := let ⟨g, kb⟩ := kb_meet F_Twin_meet; ⟨⟨_, fd_Twin_meet, g, He.meth_ok (c.d.fact 79 rfl), kb, K_meet⟩⟩
  have K_init : FnOk Pg w K mg base (L2.CX Pg w) 8 _ fd_Twin_init ["self", "machine", "first", "numbers", "keeps"] (spTwinInit K (He.ga K "Twin") (He.ga K "Machine") (He.ga K "NoState") (He.ga K "Uncommuting") (He.ga K "Refused")) := ok_Twin_init F_Twin_init B TC R_Refused C_need_state C_need_commuting C_is_integer
  have MK_Twin_numbers : MakK Pg w K mg base 8 "Twin" (He.ga K "Twin") ["self", "machine", "first", "numbers", "keeps"] (spTwinInit K (He.ga K "Twin") (He.ga K "Machine") (He.ga K "NoState") (He.ga K "Uncommuting") (He.ga K "Refused")) 2 ["numbers"] (fun vs zs => vs ++ zs ++ [.bl true]) := let ⟨g, kb⟩ := kb_twin_n F_Twin_init; ⟨⟨_, fd_Twin_init, g, He.glo_ok X G (c.d.fact 15 rfl), He.mkr_ok (c.d.fact 62 rfl), kb, K_init⟩⟩
  have MK_Twin_numbers_keeps : MakK Pg w K mg base 8 "Twin" (He.ga K "Twin") ["self", "machine", "first", "numbers", "keeps"] (spTwinInit K (He.ga K "Twin") (He.ga K "Machine") (He.ga K "NoState") (He.ga K "Uncommuting") (He.ga K "Refused")) 2 ["numbers", "keeps"] (fun vs zs => vs ++ zs) := let ⟨g, kb⟩ := kb_twin_nk F_Twin_init; ⟨⟨_, fd_Twin_init, g, He.glo_ok X G (c.d.fact 15 rfl), He.mkr_ok (c.d.fact 62 rfl), kb, K_init⟩⟩
  have MK_Twin_keeps : MakK Pg w K mg base 8 "Twin" (He.ga K "Twin") ["self", "machine", "first", "numbers", "keeps"] (spTwinInit K (He.ga K "Twin") (He.ga K "Machine") (He.ga K "NoState") (He.ga K "Uncommuting") (He.ga K "Refused")) 2 ["keeps"] (fun vs zs => vs ++ [.int 2] ++ zs) := let ⟨g, kb⟩ := kb_twin_k F_Twin_init; ⟨⟨_, fd_Twin_init, g, He.glo_ok X G (c.d.fact 15 rfl), He.mkr_ok (c.d.fact 62 rfl), kb, K_init⟩⟩
  have MK_Twin_first_machine : MakK Pg w K mg base 8 "Twin" (He.ga K "Twin") ["self", "machine", "first", "numbers", "keeps"] (spTwinInit K (He.ga K "Twin") (He.ga K "Machine") (He.ga K "NoState") (He.ga K "Uncommuting") (He.ga K "Refused")) 0 ["first", "machine"] (fun vs zs => vs ++ zs.reverse ++ [.int 2, .bl true]) := let ⟨g, kb⟩ := kb_twin_fm F_Twin_init; ⟨⟨_, fd_Twin_init, g, He.glo_ok X G (c.d.fact 15 rfl), He.mkr_ok (c.d.fact 62 rfl), kb, K_init⟩⟩
  have MK_Machine : MakP Pg w K mg base 6 "Machine" (He.ga K "Machine") ["self", "tables"] (spMachInit (He.ga K "Machine")) := ⟨⟨_, fd_Machine_init, He.glo_ok X G (c.d.fact 6 rfl), He.mkr_ok (c.d.fact 61 rfl), (F_Machine_init.bindsN fun _ _ _ _ _ _ us hl => match us, hl with | [_, _], _ => rfl), ok_Machine_init F_Machine_init B M C_check_tables⟩⟩
  have NS : NsC K (He.ga K "Machine") := nsC_of (c.ns "Machine" (by simp [nsl]))
  have ME := He.meth_ok (c.d.fact 66 rfl)
  have NE : NeF w K mg base (He.ga K "Machine") := ⟨⟨_, fd_Machine_eq, ⟨NS.ne, NS.sub, ME.at_, ME.fn⟩, (F_Machine_eq.bindsN fun _ _ _ _ _ _ us hl => match us, hl with | [_, _], _ => rfl), ok_Machine_eq F_Machine_eq B M (He.glo_ok X G (c.d.fact 6 rfl)) NS.hn NS.ha NS.htk NS.hm⟩⟩
  have C_law_box : Cal Pg w K mg base 1 "_law_box" ["_law_script", "_law_k"] (spBox K) := ⟨⟨_, fd_law_box, He.glo_ok X G (c.d.fact 17 rfl), F_law_box.kp, (F_law_box.bindsN fun _ _ _ _ _ _ us hl => match us, hl with | [_, _], _ => rfl), ok_law_box F_law_box B⟩⟩
  have C_law_take : Cal Pg w K mg base 1 "_law_take" ["_law_box_here", "_law_many"] spTake := ⟨⟨_, fd_law_take, He.glo_ok X G (c.d.fact 18 rfl), F_law_take.kp, (F_law_take.bindsN fun _ _ _ _ _ _ us hl => match us, hl with | [_, _], _ => rfl), ok_law_take F_law_take B⟩⟩
  have C_law_pick : Cal Pg w K mg base 2 "_law_pick" ["_law_box_here", "_law_some"] (spPick K) := ⟨⟨_, fd_law_pick, He.glo_ok X G (c.d.fact 19 rfl), F_law_pick.kp, (F_law_pick.bindsN fun _ _ _ _ _ _ us hl => match us, hl with | [_, _], _ => rfl), ok_law_pick F_law_pick B C_law_take⟩⟩
  have C_law_machine : Cal Pg w K mg base 3 "_law_machine" ["_law_box_here"] spLMach := ⟨⟨_, fd_law_machine, He.glo_ok X G (c.d.fact 20 rfl), F_law_machine.kp, (F_law_machine.bindsN fun _ _ _ _ _ _ us hl => match us, hl with | [_], _ => rfl), ok_law_machine F_law_machine B C_law_take C_law_pick⟩⟩
  have C_law_wider : Cal Pg w K mg base 2 "_law_wider" ["_law_box_here", "_law_tables"] spWider := ⟨⟨_, fd_law_wider, He.glo_ok X G (c.d.fact 21 rfl), F_law_wider.kp, (F_law_wider.bindsN fun _ _ _ _ _ _ us hl => match us, hl with | [_, _], _ => rfl), ok_law_wider F_law_wider B C_law_take⟩⟩
  have C_law_led : Cal Pg w K mg base 1 "_law_led" ["_law_tables", "_law_state", "_law_row"] spLed := ⟨⟨_, fd_law_led, He.glo_ok X G (c.d.fact 22 rfl), F_law_led.kp, (F_law_led.bindsN fun _ _ _ _ _ _ us hl => match us, hl with | [_, _, _], _ => rfl), ok_law_led F_law_led⟩⟩
  have C_law_rows : Cal Pg w K mg base 1 "_law_rows" ["_law_tables", "_law_state"] spRows := ⟨⟨_, fd_law_rows, He.glo_ok X G (c.d.fact 23 rfl), F_law_rows.kp, (F_law_rows.bindsN fun _ _ _ _ _ _ us hl => match us, hl with | [_, _], _ => rfl), ok_law_rows F_law_rows B⟩⟩
  have C_law_new : Cal Pg w K mg base 1 "_law_new" ["_law_first", "_law_numbers", "_law_keeps"] spNew := ⟨⟨_, fd_law_new, He.glo_ok X G (c.d.fact 25 rfl), F_law_new.kp, (F_law_new.bindsN fun _ _ _ _ _ _ us hl => match us, hl with | [_, _, _], _ => rfl), ok_law_new F_law_new⟩⟩
  have C_law_ahead : Cal Pg w K mg base 1 "_law_ahead" ["_law_own"] spOAhead := ⟨⟨_, fd_law_ahead, He.glo_ok X G (c.d.fact 26 rfl), F_law_ahead.kp, (F_law_ahead.bindsN fun _ _ _ _ _ _ us hl => match us, hl with | [_], _ => rfl), ok_law_ahead F_law_ahead B⟩⟩
  have C_law_do : Cal Pg w K mg base 1 "_law_do" ["_law_tables", "_law_own", "_law_side", "_law_deed", "_law_name"] spODo := ⟨⟨_, fd_law_do, He.glo_ok X G (c.d.fact 27 rfl), F_law_do.kp, (F_law_do.bindsN fun _ _ _ _ _ _ us hl => match us, hl with | [_, _, _, _, _], _ => rfl), ok_law_do F_law_do⟩⟩
  have C_law_meet : Cal Pg w K mg base 2 "_law_meet" ["_law_tables", "_law_own", "_law_side", "_law_whole"] spOMeet := ⟨⟨_, fd_law_meet, He.glo_ok X G (c.d.fact 28 rfl), F_law_meet.kp, (F_law_meet.bindsN fun _ _ _ _ _ _ us hl => match us, hl with | [_, _, _, _], _ => rfl), ok_law_meet F_law_meet B C_law_ahead C_law_led C_law_rows⟩⟩
  have C_law_right : Cal Pg w K mg base 2 "_law_right" ["_law_tables", "_law_first", "_law_own"] spORight := ⟨⟨_, fd_law_right, He.glo_ok X G (c.d.fact 29 rfl), F_law_right.kp, (F_law_right.bindsN fun _ _ _ _ _ _ us hl => match us, hl with | [_, _, _], _ => rfl), ok_law_right F_law_right B C_law_led⟩⟩
  have HF : HdF K mg := ⟨⟨_, fd_law_heard, He.glo_ok X G (c.d.fact 24 rfl), F_law_heard.kp, (F_law_heard.bindsN fun _ _ _ _ _ _ us hl => match us, hl with | [_], _ => rfl), F_law_heard⟩⟩
  have nd : (tf.map fun p => (He.cT K p).2).Nodup := c.nd
  have n12 : (He.cT K ("_law_strangers_right", none)).2 ≠ (He.cT K ("_law_made_right", none)).2 := fun z => by
    have := (List.nodup_cons.mp nd).1
    exact this (List.mem_cons.mpr (.inl z))
  have LF1 : LamF K base mg (He.fAd K ("_law_strangers_right", none)) "_law_strangers_right.<locals>.<lambda>" (ttOf K) := lamF_of F_law_strangers_right (TBs _ (List.mem_cons_self ..)) (List.mem_cons_self ..) fun r hr e => by
    rcases List.mem_cons.mp hr with z | z
    · rw [z]
    · rw [List.mem_singleton.mp z] at e
      exact absurd e.symm n12
  have LF2 : LamF K base mg (He.fAd K ("_law_made_right", none)) "_law_made_right.<locals>.<lambda>" (ttOf K) := lamF_of F_law_made_right (TBs _ (List.mem_cons_of_mem _ (List.mem_cons_self ..))) (List.mem_cons_of_mem _ (List.mem_cons_self ..)) fun r hr e => by
    rcases List.mem_cons.mp hr with z | z
    · rw [z] at e
      exact absurd e n12
    · rw [List.mem_singleton.mp z]
  have C_law_same : CalG Pg w K mg base 2 "_law_same" ["_law_twin", "_law_own"] (spSame (He.ga K "Twin")) := ⟨⟨_, fd_law_same, He.glo_ok X G (c.d.fact 30 rfl), F_law_same.kp, (F_law_same.bindsN fun _ _ _ _ _ _ us hl => match us, hl with | [_, _], _ => rfl), ok_law_same F_law_same B TC C_law_ahead M_ahead⟩⟩
  have C_law_strangers_right : CalG Pg w K mg base 9 "_law_strangers_right" ["_law_box_here", "_law_machine_here", "_law_twin", "_law_numbers"] (spStr K (He.ga K "Twin") (He.ga K "Machine") (ttOf K)) := ⟨⟨_, fd_law_strangers_right, He.glo_ok X G (c.d.fact 31 rfl), F_law_strangers_right.kp, (F_law_strangers_right.bindsN fun _ _ _ _ _ _ us hl => match us, hl with | [_, _, _, _], _ => rfl), ok_law_strangers_right F_law_strangers_right B TC M XF HF LF1 C_law_pick M_do KM_meet_side_whole KM_meet_whole⟩⟩
  have C_law_made_right : CalG Pg w K mg base 12 "_law_made_right" ["_law_box_here", "_law_machine_here", "_law_first"] (spMade (He.ga K "Machine") (ttOf K)) := ⟨⟨_, fd_law_made_right, He.glo_ok X G (c.d.fact 32 rfl), F_law_made_right.kp, (F_law_made_right.bindsN fun _ _ _ _ _ _ us hl => match us, hl with | [_, _, _], _ => rfl), ok_law_made_right F_law_made_right B TC M XF HF LF2 C_law_pick MK_Machine MK_Twin_numbers MK_Twin_numbers_keeps MK_Twin_keeps⟩⟩
  exact ok_law F_law B TC M NE C_law_box C_law_take C_law_machine C_law_wider C_law_new C_law_do C_law_meet C_law_right C_law_same C_law_strangers_right C_law_made_right MK_Machine MK_Twin_numbers MK_Twin_first_machine M_do KM_do_deed_side KM_meet_side_whole KM_meet
end
end K35
set_option maxHeartbeats 0
/-! The law holds. -/
open PySem PySem.W PySem.Calls PyProof.Rows
theorem PySem.Challenge.cw_houseslessties_k35_whole_meetings_that_b_holds : PySem.Challenge.rw_houseslessties_k35_whole_meetings_that_b.Holds := by
  w_on; o_law
  refine HandSHeadRun.head_any (r := OpenLaw.row PySem.Challenge.rw_houseslessties_k35_whole_meetings_that_b) (q := view (OpenLaw.row PySem.Challenge.rw_houseslessties_k35_whole_meetings_that_b).prog [49]) (H := K35.hk) (ob := K35.ob) (M := 4000) (loose := K35.loose)
    (d := HandSHeadRun.topDef (OpenLaw.row PySem.Challenge.rw_houseslessties_k35_whole_meetings_that_b).prog 49) (kwd := []) K35.ob_eq
    (by kernel_rfl) (fun s => by kernel_rfl) K35.headRun (by kernel_rfl) (by kernel_rfl) (by kernel_rfl) (by rfl) (by first | assumption | decide +kernel) (by decide +kernel) ⟨rfl, rfl, rfl, rfl, rfl, by decide +kernel⟩ ?hw ?hc
  case hw => w_witness2
  case hc =>
    refine K35.end_walk (l := PySem.Challenge.rw_houseslessties_k35_whole_meetings_that_b) (n := 63) (k := 13) (x := "_law_script") (CX := fun w => L2.CX K35.Pg w) rfl (by decide) (by kernel_rfl) ⟨rfl, by decide, by decide⟩ ?F (fun _ _ _ _ _ z => by
      obtain ⟨_, _, _, _, _, _, _, _, _, _, _, _, f⟩ := z
      exact f)
    intro w mg fa h Y G hmg0
    obtain ⟨K, KX, c⟩ := Y
    have hmg : mg ("law" : PySem.Str) = some (.ref fa) := by
      have e : (HandSHeadRun.topDef (OpenLaw.row PySem.Challenge.rw_houseslessties_k35_whole_meetings_that_b).prog 49).name = ("law" : PySem.Str) := by kernel_rfl
      rw [← e]
      exact hmg0
    have e2 := hmg.symm.trans (He.glo_ok KX G (c.d.fact 33 (f := .glo "law") rfl))
    cases e2
    obtain ⟨fd, hb, hF⟩ := K35.chain (w := w) KX G c
    refine ⟨K, fd, K35.csOf K, K35.spLaw K (K35.ttOf K), KX, fun p hp => ?_, fun p hp => ?_, fun p hp => ?_, hb, fun H a ns hl hT hS => ⟨a, ns, rfl, hS, hl, fun p hp => ?_, fun _ => rfl⟩, fun base _ _ TB => hF base TB⟩
    · obtain ⟨q, hq, rfl⟩ := List.mem_map.mp hp
      exact c.empty q hq
    · obtain ⟨q, hq, rfl⟩ := List.mem_map.mp hp
      exact c.out q hq
    · obtain ⟨q, hq, rfl⟩ := List.mem_map.mp hp
      exact PySem.W.codeHd_of_K KX (c.hd q hq)
    · rcases List.mem_cons.mp hp with z | z
      · rw [z]
        exact LamX.TabS.nil (hT (He.cT K ("_law_strangers_right", none)) (List.mem_map.mpr ⟨("_law_strangers_right", none), List.mem_cons_self .., rfl⟩))
      · rw [List.mem_singleton.mp z]
        exact LamX.TabS.nil (hT (He.cT K ("_law_made_right", none)) (List.mem_map.mpr ⟨("_law_made_right", none), List.mem_cons_of_mem _ (List.mem_cons_self ..), rfl⟩))
