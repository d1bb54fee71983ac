import PyProof.Rows.All
import Wide.All
import OpenK.AllK
import Wide.FinOn
import Lean
import PySem.Challenge.RW_nt0006_01
open PySem PySem.W PySem.Spec PySem.Calls PyProof.Rows
set_option Elab.async false
set_option maxRecDepth 100000
set_option maxHeartbeats 100000000
set_option rowWalk.seconds 0
set_option compiler.extract_closed false
set_option linter.all false
set_option linter.unusedVariables false
set_option linter.unusedSimpArgs false
namespace Mine
-- Top7
theorem keep2 {G P Q : Prop} (hl : P) (hc : Q) (g : G) : G := g
def mk3 {T L : Prop} {G S : Prop} (f : S → L → T → G) : (T : Prop) ×' (L : Prop) ×' (S → L → T → G) := ⟨T, L, f⟩
def hdT : (T : Prop) ×' (L : Prop) ×' (PySem.Challenge.rw_nt0006_01.wellSaid = true → L → T → PySem.Challenge.rw_nt0006_01.Holds) := by
  apply mk3
  case f =>
    intro ws l h
    w_on
    refine holds_law ws (fun said => ?_)
    apply keep2
    exact l
    exact h
    k_head
    case hw => w_witness2
-- Top8
theorem keep1 {G Q : Prop} (hc : Q) (g : G) : G := g
theorem hd.tw1011335219593555734 : True := trivial
theorem hd.tw10129378172709445578 : True := trivial
theorem hd.tw1013155817946168525 : True := trivial
theorem hd.tw10246146449241189800 : True := trivial
theorem hd.tw10258999931320997221 : True := trivial
theorem hd.tw10403243965636340961 : True := trivial
theorem hd.tw10424393626065333798 : True := trivial
theorem hd.tw10525666975642140466 : True := trivial
theorem hd.tw10583446816852156582 : True := trivial
theorem hd.tw10601615944963115059 : True := trivial
theorem hd.tw10603584201595350602 : True := trivial
theorem hd.tw10949625832625181284 : True := trivial
theorem hd.tw11032806212648032379 : True := trivial
theorem hd.tw11054480109507316185 : True := trivial
theorem hd.tw11128854368766332075 : True := trivial
theorem hd.tw11210553801493137410 : True := trivial
theorem hd.tw11213053971927718326 : True := trivial
theorem hd.tw11232374478483605306 : True := trivial
theorem hd.tw11319892378374348655 : True := trivial
theorem hd.tw11402939732021071671 : True := trivial
theorem hd.tw11466407313503104438 : True := trivial
theorem hd.tw11631947586910100387 : True := trivial
theorem hd.tw11652457597714270106 : True := trivial
theorem hd.tw11660266114150955751 : True := trivial
theorem hd.tw11754176132448286083 : True := trivial
theorem hd.tw12271959270614036898 : True := trivial
theorem hd.tw12399718760709695909 : True := trivial
theorem hd.tw12936449754285732098 : True := trivial
theorem hd.tw13181700845877081190 : True := trivial
theorem hd.tw13225837485096350037 : True := trivial
theorem hd.tw13267510147771200024 : True := trivial
theorem hd.tw13368278939475635651 : True := trivial
theorem hd.tw13372043803930879067 : True := trivial
theorem hd.tw13483081372092288885 : True := trivial
theorem hd.tw1359830224848277088 : True := trivial
theorem hd.tw13609717118414637909 : True := trivial
theorem hd.tw13770079208771991547 : True := trivial
theorem hd.tw13919464512627920130 : True := trivial
theorem hd.tw14103535550066685397 : True := trivial
theorem hd.tw14168552714766633299 : True := trivial
theorem hd.tw14176624398918483544 : True := trivial
theorem hd.tw14346525914970070588 : True := trivial
theorem hd.tw14353793391729792155 : True := trivial
theorem hd.tw1439246655266547700 : True := trivial
theorem hd.tw14457593812595234344 : True := trivial
theorem hd.tw14620637471214046174 : True := trivial
theorem hd.tw14955159897011116063 : True := trivial
theorem hd.tw15089522573102190283 : True := trivial
theorem hd.tw15166520500009309586 : True := trivial
theorem hd.tw15347494238783688032 : True := trivial
theorem hd.tw15411387601460861337 : True := trivial
theorem hd.tw15424127671925324577 : True := trivial
theorem hd.tw15529170255622000948 : True := trivial
theorem hd.tw15603535497565009323 : True := trivial
theorem hd.tw15615537253650120727 : True := trivial
theorem hd.tw15759970867653108152 : True := trivial
theorem hd.tw1580110805410547442 : True := trivial
theorem hd.tw15833661619300960221 : True := trivial
theorem hd.tw15967140613478806237 : True := trivial
theorem hd.tw15990741470632014444 : True := trivial
theorem hd.tw1600037746751723098 : True := trivial
theorem hd.tw16056359734778111409 : True := trivial
theorem hd.tw16064382804478563927 : True := trivial
theorem hd.tw16194383521188589630 : True := trivial
theorem hd.tw16211521421427940678 : True := trivial
theorem hd.tw16345102440705955213 : True := trivial
theorem hd.tw16558748385490520968 : True := trivial
theorem hd.tw16634568088961857937 : True := trivial
theorem hd.tw16722109127936396110 : True := trivial
theorem hd.tw16828841361933241965 : True := trivial
theorem hd.tw16868993833207775613 : True := trivial
theorem hd.tw16920754564084929960 : True := trivial
theorem hd.tw17062030032774818151 : True := trivial
theorem hd.tw17087091549796120035 : True := trivial
theorem hd.tw17177331786930743035 : True := trivial
theorem hd.tw17252143746492648416 : True := trivial
theorem hd.tw17447410573909459338 : True := trivial
theorem hd.tw1760603350576429475 : True := trivial
theorem hd.tw17606422857730326317 : True := trivial
theorem hd.tw17650839729002327288 : True := trivial
theorem hd.tw17673860158736603733 : True := trivial
theorem hd.tw17893044597097874663 : True := trivial
theorem hd.tw17975533764899295144 : True := trivial
theorem hd.tw18166333605607142505 : True := trivial
theorem hd.tw18264374347568628810 : True := trivial
theorem hd.tw18322514126500204803 : True := trivial
theorem hd.tw2114630138375439770 : True := trivial
theorem hd.tw2167537188350426706 : True := trivial
theorem hd.tw2195365466389143174 : True := trivial
theorem hd.tw2216850387143573719 : True := trivial
theorem hd.tw22551697357593593 : True := trivial
theorem hd.tw2274498078352570744 : True := trivial
theorem hd.tw2319242062444301091 : True := trivial
theorem hd.tw2352558718584008940 : True := trivial
theorem hd.tw2386827423013361158 : True := trivial
theorem hd.tw2391449824757734642 : True := trivial
theorem hd.tw2442259710966052079 : True := trivial
theorem hd.tw2478488760367284492 : True := trivial
theorem hd.tw2708950531961675432 : True := trivial
theorem hd.tw2887051446865420828 : True := trivial
theorem hd.tw3008623586974134963 : True := trivial
theorem hd.tw3039998526598829958 : True := trivial
theorem hd.tw307737655149646647 : True := trivial
theorem hd.tw3182187488490625086 : True := trivial
theorem hd.tw3219085151875037572 : True := trivial
theorem hd.tw3273344482883276262 : True := trivial
theorem hd.tw3571134770919094901 : True := trivial
theorem hd.tw3759623122121258479 : True := trivial
theorem hd.tw3789350110615891812 : True := trivial
theorem hd.tw3846061349045661252 : True := trivial
theorem hd.tw395138700845864316 : True := trivial
theorem hd.tw4014540891139286612 : True := trivial
theorem hd.tw4086058157674990017 : True := trivial
theorem hd.tw4115565904173853331 : True := trivial
theorem hd.tw4218054939716304509 : True := trivial
theorem hd.tw4297731678662094536 : True := trivial
theorem hd.tw4478964076566166474 : True := trivial
theorem hd.tw4494801613693538912 : True := trivial
theorem hd.tw461538923250603899 : True := trivial
theorem hd.tw4706079058837389440 : True := trivial
theorem hd.tw5036846961687405229 : True := trivial
theorem hd.tw5106143834845376506 : True := trivial
theorem hd.tw5130813555471234732 : True := trivial
theorem hd.tw5148922909946612681 : True := trivial
theorem hd.tw5174551420813472067 : True := trivial
theorem hd.tw5190246844813560578 : True := trivial
theorem hd.tw5278057926702712004 : True := trivial
theorem hd.tw5363564295841288755 : True := trivial
theorem hd.tw5373601922739893978 : True := trivial
theorem hd.tw5567388512258382067 : True := trivial
theorem hd.tw5608270528595127837 : True := trivial
theorem hd.tw5857384340933288121 : True := trivial
theorem hd.tw5987830557187376847 : True := trivial
theorem hd.tw6060742912462422084 : True := trivial
theorem hd.tw6196171512934965099 : True := trivial
theorem hd.tw6276725880618359904 : True := trivial
theorem hd.tw6305734824756694309 : True := trivial
theorem hd.tw6394381022753523788 : True := trivial
theorem hd.tw6407587892757256292 : True := trivial
theorem hd.tw6411954120941647267 : True := trivial
theorem hd.tw6442067068224118133 : True := trivial
theorem hd.tw6528754448969337418 : True := trivial
theorem hd.tw6545403380812914513 : True := trivial
theorem hd.tw6663896369628448293 : True := trivial
theorem hd.tw6785817131721698500 : True := trivial
theorem hd.tw6819123309680001836 : True := trivial
theorem hd.tw6830512106363814048 : True := trivial
theorem hd.tw6838551448383532254 : True := trivial
theorem hd.tw7023726343779634624 : True := trivial
theorem hd.tw7028611270464810887 : True := trivial
theorem hd.tw7120233287515763914 : True := trivial
theorem hd.tw728884934406724761 : True := trivial
theorem hd.tw7289634563603522867 : True := trivial
theorem hd.tw7294075314067506599 : True := trivial
theorem hd.tw7296583596125217682 : True := trivial
theorem hd.tw7366208706002141716 : True := trivial
theorem hd.tw7752767780024739350 : True := trivial
theorem hd.tw7754304195085646258 : True := trivial
theorem hd.tw8025032847418708242 : True := trivial
theorem hd.tw8047900516022102942 : True := trivial
theorem hd.tw8112040973832200146 : True := trivial
theorem hd.tw8226494294326810461 : True := trivial
theorem hd.tw8228950375871286339 : True := trivial
theorem hd.tw8268277133935991078 : True := trivial
theorem hd.tw8458067239894703972 : True := trivial
theorem hd.tw8727321023445011275 : True := trivial
theorem hd.tw8732188552807035984 : True := trivial
theorem hd.tw9386895884608548742 : True := trivial
theorem hd.tw9499510787657705874 : True := trivial
theorem hd.tw9518435502879478352 : True := trivial
theorem hd.tw9641152695372364146 : True := trivial
theorem hd.tw9657781627882305391 : True := trivial
theorem hd.tw9673543361469618366 : True := trivial
theorem hd.tw978945382295711627 : True := trivial
set_option Elab.async true in
theorem hd (h : hdT.1) : PySem.Challenge.rw_nt0006_01.Holds := by
  w_on
  o_law
  apply keep1
  exact h
  o_head (kmHook hdT.heap_1 [2, 3, 15, 22, 23, 25, 26, 28, 29, 30, 31, 32, 33, 36, 43, 44, 45, 48, 55, 56, 57, 60, 62, 63, 65, 66, 67, 69, 70, 72, 73, 74, 76, 77, 79, 80, 81, 83, 84, 86, 87, 88, 90, 91, 93, 94, 95, 97, 98, 100, 101, 102, 104, 105, 107, 108, 109, 111, 112, 114, 115, 116, 118, 119, 121, 122, 123, 125, 126, 128, 129, 130, 133, 134, 135, 137, 138, 140, 141, 142, 144, 145, 147, 148, 149, 151, 152, 154, 155, 156, 158, 159, 161, 162, 163, 165, 166, 168, 169, 170, 173, 174, 175, 177, 178, 180, 181, 182, 184, 185, 187, 188, 189, 191, 192, 194, 195, 196, 197, 200, 201, 202, 203, 204, 205, 206, 207, 208, 209, 210, 211, 212, 213, 214, 215, 216, 217, 218, 219, 221, 222, 224, 225, 226, 228, 229, 231, 232, 233, 236, 237, 238, 240, 241, 243, 244, 245, 247, 248, 250, 251, 252, 255, 256, 257, 259, 260, 262, 263, 264, 267, 268, 269, 272, 273, 274, 277, 278, 279, 282, 283, 284, 287, 288, 289, 292, 293] (fun _ => by kernel_rfl) [258, 253])
  case hw => w_witness2
-- P0
section
abbrev Led := List (Addr × Obj)
/-! the loops: a for by an invariant over its frame and its ledger -/
noncomputable def Off (wr : List Addr) (l : Led) : Prop := ∀ p ∈ l, p.1 ∉ wr
noncomputable def TurnEnd (h₀ : Heap) (L : Addr) (wr : List Addr) (own : Led) (J : (Str → Option Value) → Led → Prop) (s₁ s₂ : Shared) : Prop :=
  ∃ h' tk m' n', s₂ = { s₁ with heap := h', toks := tk } ∧ Fr h₀ L h' m' ∧ News h₀ L h' (n' ++ own) ∧ Off wr n' ∧ J m' n'
noncomputable def TurnPost (h₀ : Heap) (L : Addr) (wr : List Addr) (own : Led) (J : (Str → Option Value) → Led → Prop) (s₁ : Shared) (Q : Flow → Shared → Prop) (f : Flow) (s₂ : Shared) : Prop :=
  match f with
  | .ret v => Q (.ret v) s₂
  | .brk => Q .next s₂
  | _ => TurnEnd h₀ L wr own J s₁ s₂
theorem turn_n {h₀ : Heap} {L : Addr} {wr : List Addr} {own : Led} {J : (Str → Option Value) → Led → Prop} {s₁ : Shared} {Q : Flow → Shared → Prop} {s₂ : Shared} (h : TurnEnd h₀ L wr own J s₁ s₂) : TurnPost h₀ L wr own J s₁ Q .next s₂ := h
theorem turn_r {h₀ : Heap} {L : Addr} {wr : List Addr} {own : Led} {J : (Str → Option Value) → Led → Prop} {s₁ : Shared} {Q : Flow → Shared → Prop} {v : Value} {s₂ : Shared} (h : Q (.ret v) s₂) : TurnPost h₀ L wr own J s₁ Q (.ret v) s₂ := h
theorem TurnEnd.intro {h₀ : Heap} {L : Addr} {wr : List Addr} {own : Led} {J : (Str → Option Value) → Led → Prop} {s₁ : Shared} {h' : Heap} {tk : Nat} {m' : Str → Option Value} {n' : Led}
    (F : Fr h₀ L h' m') (N : News h₀ L h' (n' ++ own)) (ho : Off wr n') (hj : J m' n') : TurnEnd h₀ L wr own J s₁ { s₁ with heap := h', toks := tk } := ⟨h', tk, m', n', rfl, F, N, ho, hj⟩
/-- an address above the ledger is none of the loop's -/
theorem off_new {wr : List Addr} {own l : Led} {q : Addr} (hw : ∀ b ∈ wr, ∃ o, (b, o) ∈ own) (hl : ∀ p ∈ own, p ∈ l) (hq : ∀ p ∈ l, p.1 < q) : q ∉ wr := fun hm => by
  obtain ⟨o, ho⟩ := hw q hm
  exact absurd (hq _ (hl _ ho)) (Nat.lt_irrefl _)
theorem Off.cons {wr : List Addr} {p : Addr × Obj} {l : Led} (h : p.1 ∉ wr) (ho : Off wr l) : Off wr (p :: l) := fun q hq => by
  rcases List.mem_cons.mp hq with rfl | hq
  · exact h
  · exact ho q hq
theorem off_rest {fp : List Addr} {news own : Led} {d : Addr} (h1 : ∀ p ∈ news, p.1 ≠ d) (h2 : ∀ p ∈ own, p.1 ∈ fp) (h3 : d ∉ fp) : ∀ p ∈ news ++ own, p.1 ≠ d := fun p hp => by
  rcases List.mem_append.mp hp with hp | hp
  · exact h1 p hp
  · exact fun e => h3 (e ▸ h2 p hp)
theorem Off.nil {wr : List Addr} : Off wr [] := fun _ h => nomatch h
theorem Off.app {wr : List Addr} {l l' : Led} (h : Off wr l) (h' : Off wr l') : Off wr (l ++ l') := fun q hq => (List.mem_append.mp hq).elim (h q) (h' q)
theorem Off.tail {wr : List Addr} {p : Addr × Obj} {l : Led} (h : Off wr (p :: l)) : Off wr l := fun q hq => h q (.tail _ hq)
section
variable {prog : Program} {w : World} {A : Around} {E : Value → Shared → Prop} {s : Shared} {env : Env} {h₀ : Heap} {target : Expr} {body : List Stmt} {Q : Flow → Shared → Prop}
theorem news_swap {h : Heap} {L : Addr} {a b : Led} (N : News h₀ L h (a ++ b)) : News h₀ L h (b ++ a) := fun p hp => N p ((List.mem_append.mp hp).elim (fun x => List.mem_append.mpr (.inr x)) fun x => List.mem_append.mpr (.inl x))
theorem turnsJ {I : Addr} {fp wr : List Addr} {n : Nat} {P Md : Nat → Value → Heap → Prop} {St : Nat → Heap → Prop} {m₀ : Str → Option Value} {news : Led} (W : KTurns prog w A target I fp wr n P Md St)
    (hEx : ∀ i h, St i h → ∀ b ∈ wr, ∃ o, h.get? b = some o) (hLf : env.locals ∉ fp) (hwr : ∀ b ∈ wr, h₀.get? b = none) (hnw : Off wr news) (hst : St 0 s.heap) (F : Fr h₀ env.locals s.heap m₀) (N : News h₀ env.locals s.heap news)
    (J : Nat → (Str → Option Value) → Led → Prop) (h0 : J 0 m₀ news)
    (turn : ∀ i v m₁ n₁ own h tk, i < n → P i v h → J i m₁ n₁ → Off wr n₁ → (∀ b ∈ wr, ∃ o, (b, o) ∈ own) → (∀ p ∈ own, p.1 ∈ fp) → Fr h₀ env.locals h m₁ → News h₀ env.locals h (n₁ ++ own) →
      wpAny (model prog w) A (assign target env v) (fun _ s₃ => wpAny (model prog w) A (execs body env) (TurnPost h₀ env.locals wr own (J (i + 1)) { s with heap := h, toks := tk } Q) E s₃) E { s with heap := h, toks := tk })
    (done : ∀ m₁ n₁ h tk, J n m₁ n₁ → Fr h₀ env.locals h m₁ → News h₀ env.locals h n₁ → Q .next { s with heap := h, toks := tk }) :
    TurnsAt prog w A h₀ env target body Q E (.ref I) s := by
  refine ⟨I, fp, wr, n, P, Md, St, m₀, news, J, rfl, W, hLf, hwr, hnw, hst, F, N, h0, ?_, fun h' tk m' news' F' N' _ hj => done m' news' h' tk hj F' N'⟩
  intro i v m₁ n₁ h₁ tk₁ own hin hP hJ hoff hsub _ hall hst₁ F₁ N₁
  refine wpAny_mono (turn i v m₁ n₁ own h₁ tk₁ hin hP hJ hoff (fun b hb => ?_) hsub F₁ (news_swap N₁)) (fun _ s₃ h₃ => wpAny_mono h₃ (fun f s₄ h₄ => ?_) fun _ _ e => e) fun _ _ e => e
  · obtain ⟨o, ho⟩ := hEx _ _ hst₁ b hb
    exact ⟨o, hall b (W.sub b hb) (hwr b hb) o ho⟩
  · have fin : TurnEnd h₀ env.locals wr own (J (i + 1)) { s with heap := h₁, toks := tk₁ } s₄ → LoopStepU h₀ env.locals wr own (J (i + 1)) { s with heap := h₁, toks := tk₁ } .next s₄ := by
      rintro ⟨h', tk, m', n', e, F', N', ho, hj⟩
      exact ⟨rfl, h', tk, m', n', e, F', news_swap N', ho, hj⟩
    cases f with
    | ret v => exact h₄
    | brk => exact h₄
    | next => exact fin h₄
    | cont => exact fin h₄
/-- over a list of the ledger -/
theorem for_list {l : Addr} {vs : List Value} {k : Nat} {m₀ : Str → Option Value} {news : Led}
    (hh : A.handled = none) (F : Fr h₀ env.locals s.heap m₀) (N : News h₀ env.locals s.heap news) (hm : (l, listOf vs.toArray k) ∈ news)
    (J : Nat → (Str → Option Value) → Led → Prop) (h0 : J 0 m₀ news)
    (turn : ∀ i v m₁ n₁ own h tk, vs[i]? = some v → J i m₁ n₁ → Off [s.heap.objs.size] n₁ → (∀ b ∈ [s.heap.objs.size], ∃ o, (b, o) ∈ own) → (∀ p ∈ own, p.1 ∈ [s.heap.objs.size, l]) → Fr h₀ env.locals h m₁ → News h₀ env.locals h (n₁ ++ own) →
      wpAny (model prog w) A (assign target env v) (fun _ s₃ => wpAny (model prog w) A (execs body env) (TurnPost h₀ env.locals [s.heap.objs.size] own (J (i + 1)) { s with heap := h, toks := tk } Q) E s₃) E { s with heap := h, toks := tk })
    (done : ∀ m₁ n₁ h tk, J vs.length m₁ n₁ → Fr h₀ env.locals h m₁ → News h₀ env.locals h n₁ → Q .next { s with heap := h, toks := tk }) :
    wpAny (model prog w) A (pyIter (.ref l)) (fun it s₂ => TurnsAt prog w A h₀ env target body Q E it s₂) E s := by
  have hax := N _ hm
  have hl : s.heap.IsList l vs.toArray := ⟨_, hax.1, rfl, _, rfl⟩
  have hne : l ≠ s.heap.objs.size := Nat.ne_of_lt (Heap.lt_size hax.1)
  refine wpAny_pyIter_list hl ?_
  refine turnsJ (KTurns.ofWalks (Walks.list hh s.heap.objs.size l hne vs.toArray) fun i v s Q E st q => letGo_listiter st.1 q) (fun i h st b hb => ?_) ?_ (fun b hb => ?_) (fun p hp hI => ?_) ?_ (F.push _) (fun p hp => ⟨Heap.get?_push_of_some _ (N p hp).1, (N p hp).2⟩) J h0
    (fun i v m₁ n₁ own h tk _ hP hJ ho hw hs F₁ N₁ => turn i v m₁ n₁ own h tk (by simpa using hP) hJ ho hw hs F₁ N₁) (fun m₁ n₁ h tk hj => done m₁ n₁ h tk (by simpa using hj))
  · rw [List.mem_singleton.mp hb]
    obtain ⟨it, hit, _⟩ := st.1
    exact ⟨it, hit⟩
  · intro hI
    rcases List.mem_cons.mp hI with e | hI
    · exact absurd F.ns.lt (e ▸ Nat.lt_irrefl _)
    · exact hax.2.1 (List.mem_singleton.mp hI).symm
  · rw [List.mem_singleton.mp hb]; exact next_is_new F
  · exact absurd (Heap.lt_size (N p hp).1) ((List.mem_singleton.mp hI) ▸ Nat.lt_irrefl _)
  · exact ⟨⟨_, Heap.get?_push_size _ rfl, rfl, rfl⟩, hl.at fun o e => Heap.get?_push_of_some _ e⟩
/-- over a range -/
theorem for_range {r : Addr} {a b c : Int} {t u v : Tok} {n : Nat} {x : Str} {px : Pos} {m₀ : Str → Option Value} {news : Led}
    (hh : A.handled = none) (F : Fr h₀ env.locals s.heap m₀) (N : News h₀ env.locals s.heap news) (hr : IsRange s.heap r a b c t u v) (hsm : Builtin.Range.small a b c = true) (hn : Builtin.Range.rangeSize a b c = ((n : Nat) : Int))
    (J : Nat → (Str → Option Value) → Led → Prop) (h0 : J 0 m₀ news)
    (turn : ∀ i t m₁ n₁ own h tk, i < n → J i m₁ n₁ → Off [s.heap.objs.size] n₁ → (∀ b ∈ [s.heap.objs.size], ∃ o, (b, o) ∈ own) → (∀ p ∈ own, p.1 ∈ [s.heap.objs.size]) → Fr h₀ env.locals h m₁ → News h₀ env.locals h (n₁ ++ own) →
      wpAny (model prog w) A (assign (.Name x px) env (.int (a + i * c) t)) (fun _ s₃ => wpAny (model prog w) A (execs body env) (TurnPost h₀ env.locals [s.heap.objs.size] own (J (i + 1)) { s with heap := h, toks := tk } Q) E s₃) E { s with heap := h, toks := tk })
    (done : ∀ m₁ n₁ h tk, J n m₁ n₁ → Fr h₀ env.locals h m₁ → News h₀ env.locals h n₁ → Q .next { s with heap := h, toks := tk }) :
    wpAny (model prog w) A (pyIter (.ref r)) (fun it s₂ => TurnsAt prog w A h₀ env (.Name x px) body Q E it s₂) E s := by
  refine wpAny_pyIter_range hr hsm ?_
  refine turnsJ (KTurns.ofWalks (Walks.range hh s.heap.objs.size a c n) fun i v s Q E st q => wpAny_of_eq (a := ()) rfl q) (fun i h st b hb => ?_) ?_ (fun b hb => ?_) (fun p hp hI => ?_) ?_ (F.push _) (fun p hp => ⟨Heap.get?_push_of_some _ (N p hp).1, (N p hp).2⟩) J h0
    (fun i v m₁ n₁ own h tk hin hP hJ ho hw hs F₁ N₁ => ?_) (fun m₁ n₁ h tk hj => done m₁ n₁ h tk hj)
  · rw [List.mem_singleton.mp hb]; exact ⟨_, st⟩
  · intro hI
    exact absurd F.ns.lt ((List.mem_singleton.mp hI) ▸ Nat.lt_irrefl _)
  · rw [List.mem_singleton.mp hb]; exact next_is_new F
  · exact absurd (Heap.lt_size (N p hp).1) ((List.mem_singleton.mp hI) ▸ Nat.lt_irrefl _)
  · show IsRangeIter _ _ _ _ _
    rw [hn]; simpa using Heap.get?_push_size _ rfl
  · obtain ⟨t, rfl⟩ := hP
    exact turn i t m₁ n₁ own h tk hin hJ ho hw hs F₁ N₁
/-- over enumerate of a list -/
theorem for_enum {elts : List Expr} {kk : Nat} {pos : Pos} {l : Addr} {vs : List Value} {k : Nat} {m₀ : Str → Option Value} {news : Led}
    (hh : A.handled = none) (F : Fr h₀ env.locals s.heap m₀) (N : News h₀ env.locals s.heap news) (hm : (l, listOf vs.toArray k) ∈ news)
    (J : Nat → (Str → Option Value) → Led → Prop) (h0 : J 0 m₀ news)
    (turn : ∀ (i : Nat) v t T m₁ n₁ own h tk, vs[i]? = some v → IsTup h T #[.int (i : Int) t, v] → J i m₁ n₁ → Off [s.heap.objs.size + 1, s.heap.objs.size] n₁ → (∀ b ∈ [s.heap.objs.size + 1, s.heap.objs.size], ∃ o, (b, o) ∈ own) → (∀ p ∈ own, p.1 ∈ [s.heap.objs.size + 1, s.heap.objs.size, l]) → Fr h₀ env.locals h m₁ → News h₀ env.locals h (n₁ ++ own) →
      wpAny (model prog w) A (assign (.Tuple elts kk pos) env (.ref T)) (fun _ s₃ => wpAny (model prog w) A (execs body env) (TurnPost h₀ env.locals [s.heap.objs.size + 1, s.heap.objs.size] own (J (i + 1)) { s with heap := h, toks := tk } Q) E s₃) E { s with heap := h, toks := tk })
    (done : ∀ m₁ n₁ h tk, J vs.length m₁ n₁ → Fr h₀ env.locals h m₁ → News h₀ env.locals h n₁ → Q .next { s with heap := h, toks := tk }) :
    wpAny (model prog w) A (call (.type "enumerate") [.ref l]) (fun xv s₁ => wpAny (model prog w) A (pyIter xv) (fun it s₂ => TurnsAt prog w A h₀ env (.Tuple elts kk pos) body Q E it s₂) E s₁) E s := by
  have hax := N _ hm
  have hl : s.heap.IsList l vs.toArray := ⟨_, hax.1, rfl, _, rfl⟩
  have hlt : l < s.heap.objs.size := Heap.lt_size hax.1
  have hLs : env.locals < s.heap.objs.size := F.ns.lt
  refine call_enumerate_list hl fun h' hE hI hsz hk => ?_
  refine wpAny_pyIter_enum hE ?_
  refine turnsJ (KTurns.ofWalksU (WalksT.enumerate hh (s.heap.objs.size + 1) s.heap.objs.size l (Nat.succ_ne_self _) (ktu_ne 1 hlt) (Nat.ne_of_lt hlt) vs.toArray).toU) (fun i h st b hb => ?_) ?_ (fun b hb => ?_) (fun p hp hI => ?_) ?_ (F.keeps hk) (N.grown hk) J h0
    (fun i v m₁ n₁ own h tk _ hP hJ ho hw hs F₁ N₁ => ?_) (fun m₁ n₁ h tk hj => done m₁ n₁ h tk (by simpa using hj))
  · obtain ⟨⟨old, he⟩, ⟨oi, hoi, _⟩, _⟩ := st
    rcases List.mem_cons.mp hb with rfl | hb
    · exact ⟨_, he⟩
    · rw [List.mem_singleton.mp hb]; exact ⟨oi, hoi⟩
  · intro hI'
    rcases List.mem_cons.mp hI' with e | hI'
    · exact ktu_ne 1 hLs e
    · rcases List.mem_cons.mp hI' with e | hI'
      · exact Nat.ne_of_lt hLs e
      · exact hax.2.1 (List.mem_singleton.mp hI').symm
  · rcases List.mem_cons.mp hb with rfl | hb
    · exact ktu_new F (Nat.le_add_right _ _)
    · rw [List.mem_singleton.mp hb]; exact ktu_new F (Nat.le_refl _)
  · have hlp := Heap.lt_size (N p hp).1
    rcases List.mem_cons.mp hI with e | hI
    · exact ktu_ne 1 hlp e
    · exact Nat.ne_of_lt hlp (List.mem_singleton.mp hI)
  · exact ⟨⟨.none, hE⟩, hI, hl.at fun o e => hk l o e⟩
  · obtain ⟨T, vals, rfl, ⟨t, x, hx, rfl⟩, hT⟩ := hP
    exact turn i x t T m₁ n₁ own h tk (by simpa using hx) hT hJ ho hw hs F₁ N₁
/-- over a zip of two lists -/
theorem for_zip {elts : List Expr} {kk : Nat} {pos : Pos} {l1 l2 : Addr} {xs ys : List Value} {k1 k2 : Nat} {m₀ : Str → Option Value} {news : Led}
    (hh : A.handled = none) (F : Fr h₀ env.locals s.heap m₀) (N : News h₀ env.locals s.heap news) (hm1 : (l1, listOf xs.toArray k1) ∈ news) (hm2 : (l2, listOf ys.toArray k2) ∈ news)
    (J : Nat → (Str → Option Value) → Led → Prop) (h0 : J 0 m₀ news)
    (turn : ∀ i x y T m₁ n₁ own h tk, xs[i]? = some x → ys[i]? = some y → IsTup h T #[x, y] → J i m₁ n₁ → Off [s.heap.objs.size + 4, s.heap.objs.size + 3, s.heap.objs.size, s.heap.objs.size + 1] n₁ → (∀ b ∈ [s.heap.objs.size + 4, s.heap.objs.size + 3, s.heap.objs.size, s.heap.objs.size + 1], ∃ o, (b, o) ∈ own) → (∀ p ∈ own, p.1 ∈ [s.heap.objs.size + 4, s.heap.objs.size + 2, s.heap.objs.size + 3, s.heap.objs.size, s.heap.objs.size + 1, l1, l2]) → Fr h₀ env.locals h m₁ → News h₀ env.locals h (n₁ ++ own) →
      wpAny (model prog w) A (assign (.Tuple elts kk pos) env (.ref T)) (fun _ s₃ => wpAny (model prog w) A (execs body env) (TurnPost h₀ env.locals [s.heap.objs.size + 4, s.heap.objs.size + 3, s.heap.objs.size, s.heap.objs.size + 1] own (J (i + 1)) { s with heap := h, toks := tk } Q) E s₃) E { s with heap := h, toks := tk })
    (done : ∀ m₁ n₁ h tk, J (min xs.length ys.length) m₁ n₁ → Fr h₀ env.locals h m₁ → News h₀ env.locals h n₁ → Q .next { s with heap := h, toks := tk }) :
    wpAny (model prog w) A (call (.type "zip") [.ref l1, .ref l2]) (fun xv s₁ => wpAny (model prog w) A (pyIter xv) (fun it s₂ => TurnsAt prog w A h₀ env (.Tuple elts kk pos) body Q E it s₂) E s₁) E s := by
  have hax1 := N _ hm1
  have hax2 := N _ hm2
  have hl1 : s.heap.IsList l1 xs.toArray := ⟨_, hax1.1, rfl, _, rfl⟩
  have hl2 : s.heap.IsList l2 ys.toArray := ⟨_, hax2.1, rfl, _, rfl⟩
  have hlt1 : l1 < s.heap.objs.size := Heap.lt_size hax1.1
  have hlt2 : l2 < s.heap.objs.size := Heap.lt_size hax2.1
  have hLs : env.locals < s.heap.objs.size := F.ns.lt
  have D := ktu_apart s.heap.objs.size l1 l2 hlt1 hlt2
  refine call_zip_2 hl1 hl2 fun h' hz hTI hTO hi1 hi2 hsz hk => ?_
  refine wpAny_pyIter_zip hz ?_
  refine turnsJ (KTurns.ofWalksU (WalksT.zip2 hh _ _ _ _ _ _ _ D xs.toArray ys.toArray).toU) (fun i h st b hb => ?_) ?_ (fun b hb => ?_) (fun p hp hI => ?_) ?_ (F.keeps hk) (N.grown hk) J h0
    (fun i v m₁ n₁ own h tk _ hP hJ ho hw hs F₁ N₁ => ?_) (fun m₁ n₁ h tk hj => done m₁ n₁ h tk (by simpa using hj))
  · obtain ⟨hz, hTI, ⟨a, b', hTO⟩, ⟨o1, ho1, _⟩, ⟨o2, ho2, _⟩, _⟩ := st
    have hb' : b = s.heap.objs.size + 4 ∨ b = s.heap.objs.size + 3 ∨ b = s.heap.objs.size ∨ b = s.heap.objs.size + 1 := by simpa using hb
    rcases hb' with rfl | rfl | rfl | rfl
    · exact ⟨_, hz⟩
    · exact ⟨_, hTO⟩
    · exact ⟨_, ho1⟩
    · exact ⟨_, ho2⟩
  · intro hI'
    have hb' : env.locals = s.heap.objs.size + 4 ∨ env.locals = s.heap.objs.size + 2 ∨ env.locals = s.heap.objs.size + 3 ∨ env.locals = s.heap.objs.size ∨ env.locals = s.heap.objs.size + 1 ∨ env.locals = l1 ∨ env.locals = l2 := by simpa using hI'
    rcases hb' with e | e | e | e | e | e | e
    · exact ktu_ne 4 hLs e
    · exact ktu_ne 2 hLs e
    · exact ktu_ne 3 hLs e
    · exact Nat.ne_of_lt hLs e
    · exact ktu_ne 1 hLs e
    · exact hax1.2.1 e.symm
    · exact hax2.2.1 e.symm
  · have hb' : b = s.heap.objs.size + 4 ∨ b = s.heap.objs.size + 3 ∨ b = s.heap.objs.size ∨ b = s.heap.objs.size + 1 := by simpa using hb
    rcases hb' with rfl | rfl | rfl | rfl
    · exact ktu_new F (Nat.le_add_right _ _)
    · exact ktu_new F (Nat.le_add_right _ _)
    · exact ktu_new F (Nat.le_refl _)
    · exact ktu_new F (Nat.le_add_right _ _)
  · have hlp := Heap.lt_size (N p hp).1
    have hb' : p.1 = s.heap.objs.size + 4 ∨ p.1 = s.heap.objs.size + 3 ∨ p.1 = s.heap.objs.size ∨ p.1 = s.heap.objs.size + 1 := by simpa using hI
    rcases hb' with e | e | e | e
    · exact ktu_ne 4 hlp e
    · exact ktu_ne 3 hlp e
    · exact Nat.ne_of_lt hlp e
    · exact ktu_ne 1 hlp e
  · exact ⟨hz, hTI, ⟨_, _, hTO⟩, hi1, hi2, hl1.at fun o e => hk l1 o e, hl2.at fun o e => hk l2 o e⟩
  · obtain ⟨T, vals, rfl, ⟨x, y, hx, hy, rfl⟩, hT⟩ := hP
    exact turn i x y T m₁ n₁ own h tk (by simpa using hx) (by simpa using hy) hT hJ ho hw hs F₁ N₁
end
/-! a statement's rest, by a name: keeps the terms small -/
noncomputable def Nm (q : Flow → Shared → Prop) : Flow → Shared → Prop := q
noncomputable def setO (m : Str → Option Value) (x : Str) (c : Option Value) : Str → Option Value := fun y => if y = x then c else m y
noncomputable def setN (m : Str → Option Value) (x : Str) (v : Value) : Str → Option Value := fun y => if y = x then some v else m y
section
variable {M : Model} {A : Around} {E : Value → Shared → Prop} {s : Shared} {env : Env} {Q : Flow → Shared → Prop}
theorem nm_use {P : Flow → Shared → Prop} {q : Flow → Shared → Prop} {f : Flow} (h : ∀ f s', P f s' → Nm q f s') (x : P f s) : Nm q f s := h f s x
theorem nm_n {P : Shared → Prop} {q : Flow → Shared → Prop} (h : ∀ s', P s' → Nm q .next s') (x : P s) : Nm q .next s := h s x
theorem nm_r {P : Value → Shared → Prop} {q : Flow → Shared → Prop} {v : Value} (h : ∀ v s', P v s' → Nm q (.ret v) s') (x : P v s) : Nm q (.ret v) s := h v s x
theorem execs_nm {st : Stmt} {rest : List Stmt} {h0 : Heap} {gg : Array GenState} {dd : Drawn} {tk0 : Nat} {oo : OsState}
    (h : ∀ q tk, (∀ s', wpAny M A (execs rest env) Q E s' → Nm q .next s') → (∀ v s', Q (.ret v) s' → Nm q (.ret v) s') → wpAny M A (exec st env) (Nm q) E ⟨h0, gg, dd, tk, oo⟩) : wpAny M A (execs (st :: rest) env) Q E ⟨h0, gg, dd, tk0, oo⟩ :=
  wpAny_execs_cons (h (fun f s' => match f with | .next => wpAny M A (execs rest env) Q E s' | f => Q f s') tk0 (fun _ x => x) fun _ _ x => x)
theorem enter_nm {t : Sem Flow} {h' : Heap} {tk : Nat} (h : ∀ q gg dd oo tk, (∀ f h' tk', Q f { s with heap := h', toks := tk' } → Nm q f ⟨h', gg, dd, tk', oo⟩) → wpAny M A t (Nm q) (fun _ _ => False) ⟨h', gg, dd, tk, oo⟩) : wpAny M A t Q E { s with heap := h', toks := tk } :=
  wpAny_noRaise (h _ _ _ _ _ fun _ _ _ x => x)
theorem enter_nm0 {t : Sem Flow} (h : ∀ q, (∀ f s', Q f s' → Nm q f s') → wpAny M A t (Nm q) (fun _ _ => False) s) : wpAny M A t Q E s := wpAny_noRaise (h _ fun _ _ x => x)
theorem enter_nmX {t : Sem Flow} (h : ∀ q, (∀ f s', Q f s' → Nm q f s') → wpAny M A t (Nm q) E s) : wpAny M A t Q E s := h _ fun _ _ x => x
theorem nm_out {P : Flow → Shared → Prop} {q : Flow → Shared → Prop} {f : Flow} {h' : Heap} {gg : Array GenState} {dd : Drawn} {tk : Nat} {oo : OsState} (h : ∀ f h' tk', P f { s with heap := h', toks := tk' } → Nm q f ⟨h', gg, dd, tk', oo⟩) (x : P f { s with heap := h', toks := tk }) : Nm q f ⟨h', gg, dd, tk, oo⟩ := h f h' tk x
noncomputable def Nv (q : Value → Shared → Prop) : Value → Shared → Prop := q
theorem nv_use {P : Value → Shared → Prop} {q : Value → Shared → Prop} {v : Value} (h : ∀ v s', P v s' → Nv q v s') (x : P v s) : Nv q v s := h v s x
theorem val_nm {t : Sem Value} {Q : Value → Shared → Prop} (h : ∀ q, (∀ v s', Q v s' → Nv q v s') → wpAny M A t (Nv q) E s) : wpAny M A t Q E s := h Q fun _ _ x => x
end
section
variable {M : Model} {A : Around} {cn : Str} {cs : Scope} {ccd : Value} {cl : List (Str × Addr)} {x : Str} {v : Value} {h₀ : Heap} {L a : Addr} {m : Str → Option Value} {news : Led} {s : Shared} {E : Value → Shared → Prop}
theorem storeX_N {Q : Unit → Shared → Prop} {h0 : Heap} {gg : Array GenState} {dd : Drawn} {tk0 : Nat} {oo : OsState} (F : Fr h₀ L h0 m) (N : News h₀ L h0 news)
    (h : ∀ h', Fr h₀ L h' (setN m x v) → News h₀ L h' news → Q () ⟨h', gg, dd, tk0 + 1, oo⟩)
    (hk : cs.kind = .function) (hx : (envX cn cs L a ccd cl).kindOf x = some .local) : wpAny M A (storeName (envX cn cs L a ccd cl) x v) Q E ⟨h0, gg, dd, tk0, oo⟩ :=
  storeX_L F N h hk hx
end
section
variable {prog : Program} {w : World} {M : Model} {A : Around} {E : Value → Shared → Prop} {env : Env} {Q : Value → Shared → Prop} {h0 : Heap} {gg : Array GenState} {dd : Drawn} {tk0 : Nat} {oo : OsState}
theorem constI {i : Int} {k : Nat} {pos : Pos} (h : Q (.int i tk0) ⟨h0, gg, dd, tk0 + 1, oo⟩) : wpAny M A (eval (.Constant (.int i) k pos) env) Q E ⟨h0, gg, dd, tk0, oo⟩ := wpAny_Constant_int h
theorem constS {x : Str} {k : Nat} {pos : Pos} (h : Q (.str x tk0) ⟨h0, gg, dd, tk0 + 1, oo⟩) : wpAny M A (eval (.Constant (.str x) k pos) env) Q E ⟨h0, gg, dd, tk0, oo⟩ := Calls.Constant_str h
theorem addI {a b : Int} {t u : Tok} (h : Q (.int (a + b) tk0) ⟨h0, gg, dd, tk0 + 1, oo⟩) : wpAny (model prog w) A (binaryOp .Add (.int a t) (.int b u)) Q E ⟨h0, gg, dd, tk0, oo⟩ := add_int h
theorem subI {a b : Int} {t u : Tok} (h : Q (.int (a - b) tk0) ⟨h0, gg, dd, tk0 + 1, oo⟩) : wpAny (model prog w) A (binaryOp .Sub (.int a t) (.int b u)) Q E ⟨h0, gg, dd, tk0, oo⟩ := sub_int h
end
theorem room_lt {a b c k : Nat} (h : a + b < c) (hk : k ≤ b) : a + k < c := Nat.lt_of_le_of_lt (Nat.add_le_add_left hk a) h
theorem room_lt0 {a b c : Nat} (h : a + b < c) : a < c := Nat.lt_of_le_of_lt (Nat.le_add_right a b) h
theorem len_lt {α : Type} {l : List α} {n : Nat} {k : Int} (h : l.length = n) (hk : k < (n : Int) := by decide) : k < (l.length : Int) := h ▸ hk
theorem room_k0 {a b c : Nat} (h : a + b < c) : a < c := Nat.lt_of_le_of_lt (Nat.le_add_right a b) h
theorem room_k2 {a b c k : Nat} (h : a + b < c) (hk : k ≤ b := by decide) : a + k < c := Nat.lt_of_le_of_lt (Nat.add_le_add_left hk a) h
theorem room_k3 {a b c m k : Nat} (h : a + b < c) (hk : m + k ≤ b := by decide) : a + m + k < c := Nat.lt_of_le_of_lt (Nat.add_assoc a _ _ ▸ Nat.add_le_add_left hk a) h
theorem ne_s1 {a : Nat} : a ≠ a + 1 := Nat.ne_of_lt (Nat.lt_add_of_pos_right (by decide))
theorem ne_s2 {a : Nat} : a ≠ a + 1 + 1 := Nat.ne_of_lt (Nat.lt_add_of_pos_right (k := 2) (by decide))
theorem ne_s3 {a : Nat} : a ≠ a + 1 + 1 + 1 := Nat.ne_of_lt (Nat.lt_add_of_pos_right (k := 3) (by decide))
theorem ne_u0 {a L : Nat} (h : a < L) : L ≠ a := Nat.ne_of_gt h
theorem ne_u1 {a L : Nat} (h : a < L) : L + 1 ≠ a := Nat.ne_of_gt (Nat.lt_add_right 1 h)
theorem ne_u2 {a L : Nat} (h : a < L) : L + 1 + 1 ≠ a := Nat.ne_of_gt (Nat.lt_add_right 2 h)
theorem ne_u3 {a L : Nat} (h : a < L) : L + 1 + 1 + 1 ≠ a := Nat.ne_of_gt (Nat.lt_add_right 3 h)
theorem ne_u4 {a L : Nat} (h : a < L) : L + 1 + 1 + 1 + 1 ≠ a := Nat.ne_of_gt (Nat.lt_add_right 4 h)
theorem le_eq_le {a b c d : Nat} (e : a = b) (h : b ≤ c) (hd : c ≤ d := by decide) : a ≤ d := e ▸ Nat.le_trans h hd
theorem eq_le {a b c : Nat} (e : a = b) (h : b ≤ c) : a ≤ c := e ▸ h
theorem int_small {i n k : Nat} {m : Int} (h : i < n) (hn : n ≤ k) (hk : (k : Int) ≤ m := by decide) : (i : Int) < m := Int.lt_of_lt_of_le (Int.ofNat_lt.mpr (Nat.lt_of_lt_of_le h hn)) hk
theorem int_le {n k : Nat} {m : Int} (hn : n ≤ k) (hk : (k : Int) ≤ m := by decide) : (n : Int) ≤ m := Int.le_trans (Int.ofNat_le.mpr hn) hk
theorem int_lt {n k : Nat} {m : Int} (hn : n ≤ k) (hk : (k : Int) < m := by decide) : (n : Int) < m := Int.lt_of_le_of_lt (Int.ofNat_le.mpr hn) hk
theorem neg_nat {n k : Nat} : -(k : Int) ≤ (n : Int) := Int.le_trans (Int.neg_nonpos_of_nonneg (Int.natCast_nonneg k)) (Int.natCast_nonneg n)
theorem neg_le_nat {k : Int} {n : Nat} (hk : k ≤ 0 := by decide) : k ≤ (n : Int) := Int.le_trans hk (Int.natCast_nonneg n)
theorem neg_lt_nat {k : Int} {n : Nat} (hk : k < 0 := by decide) : k < (n : Int) := Int.lt_of_lt_of_le hk (Int.natCast_nonneg n)
theorem nn0 {n : Nat} : (0 : Int) ≤ (n : Int) := Int.natCast_nonneg n
theorem nn1 {n : Nat} : (0 : Int) ≤ (n : Int) + 1 := Int.add_nonneg (Int.natCast_nonneg n) (by decide)
theorem nn2 {v : Int} (h : 0 ≤ v) : (0 : Int) ≤ v + 1 := Int.add_nonneg h (by decide)
theorem to_nat0 {v k : Int} {m : Nat} (h : v < k) (hk : k ≤ (m : Int) := by decide) : (v - 0).toNat ≤ m := Int.toNat_le.mpr (Int.le_trans (Int.le_of_lt ((Int.sub_zero v).symm ▸ h)) hk)
theorem draw_len {n m : Nat} {v k : Int} (e : n = (v - 0).toNat) (h : v < k) (hk : k ≤ (m : Int) + 1 := by decide) : n ≤ m := e ▸ (Int.sub_zero v).symm ▸ Int.toNat_le.mpr (Int.le_of_lt_add_one (Int.lt_of_lt_of_le h hk))
theorem mul_one0 {i : Nat} : (0 : Int) + (i : Int) * 1 = (i : Int) := (Int.zero_add _).trans (Int.mul_one _)
theorem to_nat00 {n : Nat} : ((n : Int) - 0).toNat = n := Int.toNat_sub n 0
theorem ofn_lt {a b : Nat} (h : a < b) : (a : Int) < (b : Int) := Int.ofNat_lt.mpr h
theorem ofn_le {a b : Nat} (h : a ≤ b) : (a : Int) ≤ (b : Int) := Int.ofNat_le.mpr h
theorem neg_lt {v k : Int} (h : 0 ≤ v) (hk : k < 0 := by decide) : k < v := Int.lt_of_lt_of_le hk h
theorem neg_le' {v k : Int} (h : 0 ≤ v) (hk : k ≤ 0 := by decide) : k ≤ v := Int.le_trans hk h
theorem nle {a b c : Nat} (h : a ≤ b) (k : b ≤ c := by decide) : a ≤ c := Nat.le_trans h k
theorem nlt {a b c : Nat} (h : a ≤ b) (k : b < c := by decide) : a < c := Nat.lt_of_le_of_lt h k
theorem ilt {a b c : Int} (h : a < b) (k : b ≤ c := by decide) : a < c := Int.lt_of_lt_of_le h k
theorem ile {a b c : Int} (h : a ≤ b) (k : b ≤ c := by decide) : a ≤ c := Int.le_trans h k
theorem dlt {a b c : Int} (h : b ≤ c) (k : a < b := by decide) : a < c := Int.lt_of_lt_of_le k h
theorem nn3 {v : Int} (h : 0 ≤ v) : (0 : Int) ≤ v + 1 + 1 := nn2 (nn2 h)
theorem nn4 {v : Int} (h : 0 ≤ v) : (0 : Int) ≤ v + 1 + 1 + 1 := nn2 (nn3 h)
theorem le_s1 {a : Nat} : a ≤ a + 1 := Nat.le_add_right a 1
theorem le_s2 {a : Nat} : a ≤ a + 1 + 1 := Nat.le_add_right a 2
theorem le_s3 {a : Nat} : a ≤ a + 1 + 1 + 1 := Nat.le_add_right a 3
theorem le_s4 {a : Nat} : a ≤ a + 1 + 1 + 1 + 1 := Nat.le_add_right a 4
theorem add_cap {a b k l m : Nat} (h : a ≤ k) (h2 : b ≤ l) (hk : k + l ≤ m := by decide) : a + b ≤ m := Nat.le_trans (Nat.add_le_add h h2) hk
theorem div_cap {n k m d : Nat} (h : n ≤ k) (hk : k / d ≤ m := by decide) : n / d ≤ m := Nat.le_trans (Nat.div_le_div_right h) hk
theorem cap1 {v n k m : Nat} (h : n ≤ k) (hk : k + 1 ≤ m := by decide) : min v n + (0 + 1) ≤ m := Nat.le_trans (Nat.succ_le_succ (Nat.le_trans (Nat.min_le_right v n) h)) hk
theorem cap2 {v n k m : Nat} (h : n ≤ k) (hk : k + 1 ≤ m := by decide) : min v n + (0 + 1) + (n - v) ≤ m := by omega
theorem len_ins {us : List Int} {v k m : Nat} {x : Int} (h : us.length ≤ k) (hk : k + 1 ≤ m := by decide) : ((us.take v ++ [x]) ++ us.drop v).length ≤ m := by
  rw [List.length_append, List.length_append, List.length_take, List.length_drop]; exact cap2 h hk
theorem and_dn {a b c : Prop} (h : b → c) : a ∧ b → c := fun x => h x.2
theorem ne_t1 {a : Nat} : a + 1 ≠ a := ne_s1.symm
theorem ne_t2 {a : Nat} : a + 1 + 1 ≠ a := ne_s2.symm
theorem ne_t3 {a : Nat} : a + 1 + 1 + 1 ≠ a := ne_s3.symm
theorem ne_v0 {a L : Nat} (h : a < L) : a ≠ L := (ne_u0 h).symm
theorem ne_v1 {a L : Nat} (h : a < L) : a ≠ L + 1 := (ne_u1 h).symm
theorem ne_v2 {a L : Nat} (h : a < L) : a ≠ L + 1 + 1 := (ne_u2 h).symm
theorem ne_v3 {a L : Nat} (h : a < L) : a ≠ L + 1 + 1 + 1 := (ne_u3 h).symm
theorem ne_v4 {a L : Nat} (h : a < L) : a ≠ L + 1 + 1 + 1 + 1 := (ne_u4 h).symm
theorem sub_dec {n i : Nat} (h : i < n) : n - (i + 1) < n - i := Nat.sub_lt_sub_left h (Nat.lt_succ_self i)
theorem sub_dec2 {n i : Nat} (h : i < n) : n - (i + 2) < n - i := Nat.sub_lt_sub_left h (Nat.lt_add_of_pos_right (by decide))
theorem snoc_at {j m n : Nat} (hj : ¬ j < m) (e : j - m = 0) (h : m = n) : j = n := h ▸ Nat.le_antisymm (Nat.sub_eq_zero_iff_le.mp e) (Nat.le_of_not_lt hj)
theorem tnp (i : Nat) : (((i + 1 : Nat) : Int) - 1).toNat = i := Int.toNat_sub (i + 1) 1
section
variable {M : Model} {A : Around} {cn : Str} {cs : Scope} {ccd : Value} {cl : List (Str × Addr)} {x : Str} {v : Value} {h₀ : Heap} {L a : Addr} {m : Str → Option Value} {news : Led} {s : Shared} {E : Value → Shared → Prop}
theorem storeX_M {Q : Unit → Shared → Prop} (F : Fr h₀ L s.heap m) (N : News h₀ L s.heap news)
    (h : let m' := setN m x v; ∀ h', Fr h₀ L h' m' → News h₀ L h' news → Q () { s with heap := h', toks := s.toks + 1 })
    (hk : cs.kind = .function) (hx : (envX cn cs L a ccd cl).kindOf x = some .local) : wpAny M A (storeName (envX cn cs L a ccd cl) x v) Q E s :=
  storeX_L F N h hk hx
end
theorem int_cases {P : Int → Prop} (n : Nat) (h : ∀ k : Nat, k < n → P (k : Int)) {v : Int} (h0 : 0 ≤ v) (h1 : v < (n : Int)) : P v := by
  obtain ⟨k, rfl⟩ := Int.eq_ofNat_of_zero_le h0
  exact h k (Int.ofNat_lt.mp h1)
end
-- P1
section
open LCg (lst NsObj ns_obj lst_snoc)
section
variable {prog : Program} {w : World} {A : Around} {E : Value → Shared → Prop} {s : Shared} {h₀ : Heap} {L : Addr} {m : Str → Option Value} {env : Env}
abbrev testsOf (ifs : List Expr) (env : Env) : Sem Bool := forIn ifs true fun c r => if r = true then do let ok ← isTrue c env (eval c env); pure (ForInStep.yield ok) else pure (ForInStep.yield r)
theorem compLoop_all {elt target iter : Expr} {ifs : List Expr} {scope : Scope} {pos : Pos} {it acc : Value} {env : Env} {R : Result → Shared → Prop} (I : Nat → Shared → Prop)
    (turn : ∀ n s, I n s → wpAny (model prog w) A (pyNext it) (fun r s₁ => match r with
      | none => R (.ok .next) s₁
      | some v => wpAny (model prog w) A (letOwnedTupleGo target it v) (fun _ s₁' => wpAny (model prog w) A (assign target env v) (fun _ s₂ =>
          wpAny (model prog w) A (testsOf ifs env) (fun ok s₃ =>
            if ok = true then wpAny (model prog w) A (eval elt env) (fun x s₄ =>
              wpAny (model prog w) A (call (.builtin "list.append") [acc, x]) (fun _ s₅ => ∃ m, m < n ∧ I m s₅) (notedBy (model prog w) A env fun e s' => R (.error e) s') s₄) (notedBy (model prog w) A env fun e s' => R (.error e) s') s₃
            else ∃ m, m < n ∧ I m s₃) (notedBy (model prog w) A env fun e s' => R (.error e) s') s₂)
          (notedBy (model prog w) A env fun e s' => R (.error e) s') s₁') (notedBy (model prog w) A env fun e s' => R (.error e) s') s₁) (notedBy (model prog w) A env fun e s' => R (.error e) s') s)
    (n : Nat) (h : I n s) : codeAny (model prog w) A (.compLoop (.ListComp elt [⟨target, iter, ifs, 0⟩] scope pos) 0 it acc env) R s := by
  refine codeAny_loop rfl I (fun n s hI => ?_) n h
  show wpAny _ A ((compTurn (.ListComp elt [⟨target, iter, ifs, 0⟩] scope pos) 0 it acc env).onRaise (fun x => do noteFrame x env; theTreesLotGoes x)) _ _ s
  refine wpAny_noted ?_
  rw [compTurn_list]
  refine wpAny_bind (wpAny_standAt (wpAny_bind (wpAny_mono (turn n s hI) (fun r s₁ h₁ => ?_) fun _ _ h' => h')))
  cases r with
  | none => exact wpAny_pure h₁
  | some v =>
    refine wpAny_bind (wpAny_mono h₁ (fun _ s₁' h₁' => ?_) fun _ _ h' => h')
    refine wpAny_bind (wpAny_mono h₁' (fun _ s₂ h₂ => wpAny_bind (wpAny_mono h₂ (fun ok s₃ h₃ => ?_) fun _ _ h' => h')) fun _ _ h' => h')
    cases ok with
    | false => exact wpAny_pure ⟨rfl, h₃⟩
    | true =>
      exact wpAny_bind (wpAny_bind (wpAny_mono h₃ (fun x s₄ h₄ => wpAny_bind (wpAny_mono h₄ (fun _ s₅ h₅ => wpAny_pure (wpAny_pure ⟨rfl, h₅⟩)) fun _ _ h' => h')) fun _ _ h' => h'))
/-- where a turn of a comprehension ends -/
noncomputable def CE (h₀ : Heap) (L : Addr) (m : Str → Option Value) (s₁ : Shared) (wr : List Addr) (fix : Led) (J : Led → Prop) (s₂ : Shared) : Prop :=
  ∃ h' tk n', s₂ = { s₁ with heap := h', toks := tk } ∧ Fr h₀ L h' m ∧ News h₀ L h' (n' ++ fix) ∧ Off wr n' ∧ J n'
theorem CE.intro {s₁ : Shared} {wr : List Addr} {fix : Led} {J : Led → Prop} {h' : Heap} {tk : Nat} {n' : Led} (F : Fr h₀ L h' m) (N : News h₀ L h' (n' ++ fix)) (ho : Off wr n') (hj : J n') :
    CE h₀ L m s₁ wr fix J { s₁ with heap := h', toks := tk } := ⟨h', tk, n', rfl, F, N, ho, hj⟩
theorem CE.go {q : Value → Shared → Prop} {s₁ : Shared} {wr : List Addr} {fix : Led} {J : Value → Led → Prop} (hq : ∀ y s', CE h₀ L m s₁ wr fix (J y) s' → Nv q y s') {y : Value} {h' : Heap} {tk : Nat} {n' : Led} (F : Fr h₀ L h' m) (N : News h₀ L h' (n' ++ fix)) (ho : Off wr n') (hj : J y n') :
    Nv q y { s₁ with heap := h', toks := tk } := hq y _ (CE.intro F N ho hj)
theorem tests_ce {env : Env} {P : Value → Shared → Prop} {t : Sem Value} {Y : Shared → Prop} (h : ∀ q : Value → Shared → Prop, (∀ y s', P y s' → Nv q y s') → wpAny (model prog w) A t (Nv q) E s) :
    wpAny (model prog w) A (forIn ([] : List Expr) true fun c r => if r = true then do let ok ← isTrue c env (eval c env); pure (ForInStep.yield ok) else pure (ForInStep.yield r)) (fun b s₄ => if b = true then wpAny (model prog w) A t P E s₄ else Y s₄) E s := wpAny_tests_nil (by rw [if_pos rfl]; exact h P fun _ _ x => x)
theorem tests_ce1 {env : Env} {c : Expr} {P : Value → Shared → Prop} {t : Sem Value} {Y : Shared → Prop} (h : ∀ q p : Value → Shared → Prop, (∀ y s', P y s' → Nv q y s') → (∀ y s', Y s' → Nv p y s') → wpAny (model prog w) A (isTrue c env (eval c env)) (fun b s₄ => if b = true then wpAny (model prog w) A t (Nv q) E s₄ else Nv p .none s₄) E s) :
    wpAny (model prog w) A (forIn [c] true fun c r => if r = true then do let ok ← isTrue c env (eval c env); pure (ForInStep.yield ok) else pure (ForInStep.yield r)) (fun b s₄ => if b = true then wpAny (model prog w) A t P E s₄ else Y s₄) E s := wpAny_tests_one (h P (fun _ => Y) (fun _ _ x => x) fun _ _ x => x)
/-- a target is stored in the block's own names -/
noncomputable def Asn (prog : Program) (w : World) (A : Around) (env : Env) (target : Expr) (scope : Scope) (cl : List (Str × Addr)) (P : Nat → Value → Heap → Prop) (Z : Nat → (Str → Option Value) → Prop) : Prop :=
  ∀ i v C m₁ (s : Shared) (Q : Unit → Shared → Prop) (E : Value → Shared → Prop), P i v s.heap → s.heap.Ns C m₁ →
    (∀ h' tk' m₂, Z i m₂ → h'.Ns C m₂ → (∀ b o, b ≠ C → s.heap.get? b = some o → h'.get? b = some o) → Q () { s with heap := h', toks := tk' }) →
    wpAny (model prog w) A (assign target (compEnvC scope cl C env) v) Q E s
theorem asn_name {x : Str} {px : Pos} {scope : Scope} {cl : List (Str × Addr)} {P : Nat → Value → Heap → Prop} (hkind : scope.kind = .function) (hx : scope.names.lookup x = some .local) {Z : Nat → Value → Prop} (hP : ∀ i v h, P i v h → Z i v) :
    Asn prog w A env (.Name x px) scope cl P (fun i m₂ => ∃ v, Z i v ∧ m₂ x = some v) := by
  intro i v C m₁ s Q E hp hn h
  refine wpAny_assign_Name (wpAny_storeName_local (lookup_relabel_local hx) hn (fun h₁ hn₁ hs₁ => ?_) (by simp [compEnvC, relabel, hkind]))
  exact h h₁ _ _ ⟨v, hP _ _ _ hp, by simp⟩ hn₁ fun b o hb e => hs₁.extBut b o hb e
theorem asn_pair {a b : Str} {pa pb tp : Pos} {kk : Nat} {scope : Scope} {cl : List (Str × Addr)} {P : Nat → Value → Heap → Prop} (hh : A.handled = none) (hkind : scope.kind = .function) (ha : scope.names.lookup a = some .local) (hb : scope.names.lookup b = some .local) (hab : a ≠ b)
    {Z : Nat → Value → Value → Prop} (hP : ∀ i v h, P i v h → ∃ T x y, v = .ref T ∧ IsTup h T #[x, y] ∧ Z i x y) :
    Asn prog w A env (.Tuple [.Name a pa, .Name b pb] kk tp) scope cl P (fun i m₂ => ∃ x y, Z i x y ∧ m₂ a = some x ∧ m₂ b = some y) := by
  intro i v C m₁ s Q E hp hn h
  obtain ⟨T, x, y, rfl, hT, hz⟩ := hP _ _ _ hp
  refine kcp_assign hh hT (lookup_relabel_local ha) (lookup_relabel_local hb) (by simp [compEnvC, relabel, hkind]) hn fun h' tk hn' hk => ?_
  exact h h' tk _ ⟨x, y, hz, by simp [hab], by simp⟩ hn' hk
inductive CLoop (h₀ : Heap) (L : Addr) (m : Str → Option Value) (s₂ : Shared) (n : Nat) (St : Nat → Heap → Prop) (D0 C0 : Addr) (wr : List Addr) (J : Nat → List Value → Led → Prop) (k : Nat) (s' : Shared) : Prop
  | mk : ∀ (h' : Heap) (tk i : Nat) (ys : List Value) (m' : Str → Option Value) (n₁ : Led), s' = { s₂ with heap := h', toks := tk } → i ≤ n → k = n + 1 - i → ys.length ≤ i → St i h' → Fr h₀ L h' m → h'.Ns C0 m' → News h₀ L h' ((D0, lst ys) :: n₁) →
      Off (D0 :: C0 :: wr) n₁ → J i ys n₁ → CLoop h₀ L m s₂ n St D0 C0 wr J k s'
inductive CAft (h₀ : Heap) (L : Addr) (m : Str → Option Value) (s₂ : Shared) (i : Nat) (St : Nat → Heap → Prop) (D0 C0 : Addr) (wr : List Addr) (m₂ : Str → Option Value) (J' : Led → Prop) (ys' : List Value) (s₅ : Shared) : Prop
  | mk : ∀ (h₅ : Heap) (tk₅ : Nat) (n₅ : Led), s₅ = { s₂ with heap := h₅, toks := tk₅ } → Fr h₀ L h₅ m → News h₀ L h₅ ((D0, lst ys') :: n₅) → Off (D0 :: C0 :: wr) n₅ → St (i + 1) h₅ → h₅.Ns C0 m₂ → J' n₅ → CAft h₀ L m s₂ i St D0 C0 wr m₂ J' ys' s₅
theorem comp_block {elt target iter : Expr} {ifs : List Expr} {scope : Scope} {cl : List (Str × Addr)} {pos : Pos} {s₂ : Shared} {I : Addr} {fp wr : List Addr} {n : Nat} {P Md : Nat → Value → Heap → Prop} {St : Nat → Heap → Prop} {Z : Nat → (Str → Option Value) → Prop} {news : Led}
    {RR : Value → Addr → Result → Shared → Prop}
    (W : KTurns prog w A target I fp wr n P Md St) (hEx : ∀ i h, St i h → ∀ b ∈ wr, ∃ o, h.get? b = some o) (hsz : n ≤ sizeLine) (hcell : ∀ y ∈ scope.names, y.2 ≠ .cell) (hkind : scope.kind = .function)
    (hasn : Asn prog w A env target scope cl P Z) (hself : ∀ i (s : Shared) (Q : Value → Shared → Prop) (E : Value → Shared → Prop), St i s.heap → Q (.ref I) s → wpAny (model prog w) A (pyIter (.ref I)) Q E s)
    (hst : St 0 s₂.heap) (hfp : ∀ b ∈ fp, b < s₂.heap.objs.size) (hwr : ∀ b ∈ wr, h₀.get? b = none) (hLf : L ∉ fp)
    (F : Fr h₀ L s₂.heap m) (N : News h₀ L s₂.heap news) (hoff : Off wr news) (J : Nat → List Value → Led → Prop) (h0 : J 0 [] news)
    (turn : ∀ i ys n₁ own C D oC m₂ h tk (E' : Value → Shared → Prop), i < n → Z i m₂ → J i ys n₁ → Off (D :: C :: wr) n₁ → (∀ b ∈ D :: C :: wr, ∃ o, (b, o) ∈ (D, lst ys) :: (C, oC) :: own) → (∀ p ∈ own, p.1 ∈ fp) → NsObj oC m₂ → Fr h₀ L h m → News h₀ L h ((D, lst ys) :: (C, oC) :: (n₁ ++ own)) →
      wpAny (model prog w) A (testsOf ifs (compEnvC scope cl C env)) (fun ok s₄ =>
        if ok = true then wpAny (model prog w) A (eval elt (compEnvC scope cl C env)) (fun y s₅ => CE h₀ L m s₂ (D :: C :: wr) ((D, lst ys) :: (C, oC) :: own) (J (i + 1) (ys ++ [y])) s₅) E' s₄
        else CE h₀ L m s₂ (D :: C :: wr) ((D, lst ys) :: (C, oC) :: own) (J (i + 1) ys) s₄) E' { s₂ with heap := h, toks := tk })
    (hRR : ∀ D C h tk m' ys n₁, Fr h₀ L h m → News h₀ L h ((D, lst ys) :: n₁) → (∀ p ∈ n₁, p.1 ≠ D) → h.Ns C m' → h₀.get? C = none → h₀.get? D = none → C ≠ L → D ≠ L → C ≠ D → (∀ p ∈ n₁, p.1 ≠ C) → J n ys n₁ → RR (.ref D) C (.ok .next) { s₂ with heap := h, toks := tk }) :
    wpAny (model prog w) A (newList []) (fun acc s₃ => wpAny (model prog w) A (newFunctionEnv scope env.globals cl [] env.qual none .none (some env)) (fun cenv s₄ =>
      codeAny (model prog w) A (.compStart (.ListComp elt [⟨target, iter, ifs, 0⟩] scope pos) 0 (.ref I) acc { cenv with scope := relabel scope env }) (RR acc cenv.locals) s₄) E s₃) E s₂ := by
  refine wpAny_newObj_type (wpAny_newFunctionEnv hcell (by intro y hy; simp at hy) (fun h₁ hns₁ hsb₁ => ?_) hkind)
  dsimp only at hns₁ hsb₁ ⊢
  generalize hH2 : s₂.heap.push { cls := .type "list", dict := none, data := .seq ([] : List Value).toArray } = H2 at hns₁ hsb₁ ⊢
  have hC : H2.objs.size = s₂.heap.objs.size + 1 := by rw [← hH2, Heap.size_push]
  have hDC : s₂.heap.objs.size ≠ H2.objs.size := by rw [hC]; exact Nat.ne_of_lt (Nat.lt_succ_self _)
  have below : ∀ b, b < s₂.heap.objs.size → b ≠ H2.objs.size ∧ b ≠ s₂.heap.objs.size := fun b hb => ⟨by rw [hC]; exact Nat.ne_of_lt (Nat.lt_succ_of_lt hb), Nat.ne_of_lt hb⟩
  have hDf : s₂.heap.objs.size ∉ fp := fun hm => Nat.lt_irrefl _ (hfp _ hm)
  have hCf : H2.objs.size ∉ fp := fun hm => by have := hfp _ hm; rw [hC] at this; exact Nat.lt_irrefl _ (Nat.lt_of_succ_lt this)
  have hDw : s₂.heap.objs.size ∉ wr := fun hm => hDf (W.sub _ hm)
  have hCw : H2.objs.size ∉ wr := fun hm => hCf (W.sub _ hm)
  have hLw : L ∉ wr := fun hm => hLf (W.sub _ hm)
  have old : ∀ b o, s₂.heap.get? b = some o → h₁.get? b = some o := fun b o e => hsb₁.extBut b o (below b (Heap.lt_size e)).1 (Heap.get?_push_of_some _ (hH2 ▸ Heap.get?_push_of_some _ e))
  have hacc : h₁.get? s₂.heap.objs.size = some (lst []) := hsb₁.extBut _ _ hDC (Heap.get?_push_of_some _ (hH2 ▸ Heap.get?_push_size _ rfl))
  have hst₁ : St 0 h₁ := W.frame _ _ _ hst fun b _ o e => old b o e
  have hD₀ : h₀.get? s₂.heap.objs.size = none := ktu_new F (Nat.le_refl _)
  have hC₀ : h₀.get? H2.objs.size = none := ktu_new F (by rw [hC]; exact Nat.le_succ _)
  have hLlt : L < s₂.heap.objs.size := F.ns.lt
  have hDL : s₂.heap.objs.size ≠ L := Ne.symm (below L hLlt).2
  have hCL : H2.objs.size ≠ L := Ne.symm (below L hLlt).1
  have off₀ : Off (s₂.heap.objs.size :: H2.objs.size :: wr) news := fun p hp hm => by
    have hlp := Heap.lt_size (N p hp).1
    rcases List.mem_cons.mp hm with e | hm
    · exact (below _ hlp).2 e
    · rcases List.mem_cons.mp hm with e | hm
      · exact (below _ hlp).1 e
      · exact hoff p hp hm
  have old0 : ∀ b o, h₀.get? b = some o → b ∉ wr := fun b o e hb => by rw [hwr b hb] at e; cases e
  have loop : ∀ s₃ : Shared, s₃ = { s₂ with heap := h₁, toks := s₂.toks + ([] : List (Str × Value)).length } →
      codeAny (model prog w) A (.compLoop (.ListComp elt [⟨target, iter, ifs, 0⟩] scope pos) 0 (.ref I) (.ref s₂.heap.objs.size) (compEnvC scope cl H2.objs.size env))
        (RR (.ref s₂.heap.objs.size) H2.objs.size) s₃ := by
    rintro s₃ rfl
    refine compLoop_all
      (CLoop h₀ L m s₂ n St s₂.heap.objs.size H2.objs.size wr J) ?_ (n + 1)
      ⟨h₁, _, 0, [], _, news, rfl, Nat.zero_le _, rfl, Nat.le_refl _, hst₁, F.keeps old, hns₁, fun p hp => ?_, off₀, h0⟩
    · rintro k s' ⟨h', tk, i, ys, m', n₁, rfl, hi, rfl, hyl, hst', F', hn', N', off', hJ⟩
      have wrD : ∀ {h₂ : Heap}, (∀ b o, b ∉ wr → h'.get? b = some o → h₂.get? b = some o) → Fr h₀ L h₂ m ∧ News h₀ L h₂ ((s₂.heap.objs.size, lst ys) :: n₁) ∧ h₂.Ns H2.objs.size m' := fun {h₂} hk =>
        ⟨⟨F'.ns.at' fun o e => hk _ o hLw e, fun b o e => hk b o (old0 b o e) (F'.keep b o e), F'.above⟩, fun p hp => ⟨hk _ _ (by
          rcases List.mem_cons.mp hp with rfl | hp
          · exact hDw
          · exact fun hm => off' p hp (.tail _ (.tail _ hm))) (N' p hp).1, (N' p hp).2⟩, hn'.at' fun o e => hk _ o hCw e⟩
      by_cases hlt : i < n
      · refine W.item i _ _ _ hlt hst' fun v h₂ tk₂ hMd hk₂ => ?_
        refine W.go i v _ _ _ hMd fun h₃ hPv hst₃ hk₃ => ?_
        obtain ⟨F₃, N₃, hn₃⟩ := wrD (h₂ := h₃) fun b o hb e => hk₃ b o hb (hk₂ b o hb e)
        refine hasn i v _ _ _ _ _ hPv hn₃ fun h₄ tk₄ m₂ hz hn₄ hk₄ => ?_
        have hst₄ : St (i + 1) h₄ := W.frame _ _ _ hst₃ fun b hb o e => hk₄ b o (fun q => hCf (by have q' : b = H2.objs.size := q; rw [← q']; exact hb)) e
        obtain ⟨oC, heC, hoC⟩ := ns_obj hn₄
        have F₄ : Fr h₀ L h₄ m := ⟨F₃.ns.at' fun o e => hk₄ _ o (Ne.symm hCL) e, fun b o e => hk₄ b o (fun q => by rw [q, hC₀] at e; cases e) (F₃.keep b o e), F₃.above⟩
        have Nown : News h₀ L h₄ (PyProof.Rows.ownOf h₀ fp h₄) := news_ownOf hLf
        have N₄ : News h₀ L h₄ ((s₂.heap.objs.size, lst ys) :: (H2.objs.size, oC) :: (n₁ ++ PyProof.Rows.ownOf h₀ fp h₄)) := fun p hp => by
          rcases List.mem_cons.mp hp with rfl | hp
          · exact ⟨hk₄ _ _ hDC (N₃ _ (.head _)).1, hDL, hD₀⟩
          · rcases List.mem_cons.mp hp with rfl | hp
            · exact ⟨heC, hCL, hC₀⟩
            · rcases List.mem_append.mp hp with hp | hp
              · exact ⟨hk₄ _ _ (fun q => off' p hp (by rw [q]; exact .tail _ (.head _))) (N₃ p (.tail _ hp)).1, (N₃ p (.tail _ hp)).2⟩
              · exact Nown p hp
        have hw : ∀ b ∈ s₂.heap.objs.size :: H2.objs.size :: wr, ∃ o, (b, o) ∈ (s₂.heap.objs.size, lst ys) :: (H2.objs.size, oC) :: PyProof.Rows.ownOf h₀ fp h₄ := fun b hb => by
          rcases List.mem_cons.mp hb with rfl | hb
          · exact ⟨_, .head _⟩
          · rcases List.mem_cons.mp hb with rfl | hb
            · exact ⟨_, .tail _ (.head _)⟩
            · obtain ⟨o, ho⟩ := hEx _ _ hst₄ b hb
              exact ⟨o, .tail _ (.tail _ (mem_ownOf (W.sub b hb) (hwr b hb) ho))⟩
        have after : ∀ {ys' : List Value} {J' : Led → Prop} {s₅ : Shared}, CE h₀ L m s₂ (s₂.heap.objs.size :: H2.objs.size :: wr) ((s₂.heap.objs.size, lst ys') :: (H2.objs.size, oC) :: PyProof.Rows.ownOf h₀ fp h₄) J' s₅ →
            CAft h₀ L m s₂ i St s₂.heap.objs.size H2.objs.size wr m₂ J' ys' s₅ := by
          rintro ys' J' s₅ ⟨h₅, tk₅, n₅, rfl, F₅, N₅, off₅, hJ₅⟩
          have Nf : ∀ p ∈ (s₂.heap.objs.size, lst ys') :: (H2.objs.size, oC) :: PyProof.Rows.ownOf h₀ fp h₄, h₅.get? p.1 = some p.2 := fun p hp => (N₅ p (List.mem_append.mpr (.inr hp))).1
          refine ⟨h₅, tk₅, n₅, rfl, F₅, fun p hp => ?_, off₅, W.frame _ _ _ hst₄ fun b hb o e => ?_, hoC.ns (Nf _ (.tail _ (.head _))), hJ₅⟩
          · rcases List.mem_cons.mp hp with rfl | hp
            · exact ⟨Nf _ (.head _), hDL, hD₀⟩
            · exact N₅ p (List.mem_append.mpr (.inl hp))
          · cases hn : h₀.get? b with
            | some o₀ =>
              have : o₀ = o := by have q := F₄.keep b o₀ hn; rw [e] at q; exact (Option.some.inj q).symm
              exact this ▸ F₅.keep b o₀ hn
            | none => exact Nf _ (.tail _ (.tail _ (mem_ownOf hb hn e)))
        refine wpAny_mono (turn i ys n₁ (PyProof.Rows.ownOf h₀ fp h₄) H2.objs.size s₂.heap.objs.size oC m₂ h₄ tk₄ _ hlt hz hJ off' hw ownOf_sub hoC F₄ N₄) (fun ok s₆ h₆ => ?_) fun _ _ e => e
        cases ok with
        | false =>
          simp only [Bool.false_eq_true, if_false] at h₆ ⊢
          obtain ⟨h₅, tk₅, n₅, rfl, F₅, N₅, off₅, hst₅, hn₅, hJ₅⟩ := after h₆
          exact ⟨n + 1 - (i + 1), sub_dec (Nat.lt_succ_of_lt hlt), h₅, tk₅, i + 1, ys, _, n₅, rfl, hlt, rfl, Nat.le_succ_of_le hyl, hst₅, F₅, hn₅, N₅, off₅, hJ₅⟩
        | true =>
          simp only [if_true] at h₆ ⊢
          refine wpAny_mono h₆ (fun y s₇ h₇ => ?_) fun _ _ e => e
          obtain ⟨h₅, tk₅, n₅, rfl, F₅, N₅, off₅, hst₅, hn₅, hJ₅⟩ := after h₇
          refine append_at (hsz := by show ys.toArray.size ≤ sizeLine; rw [List.size_toArray]; exact Nat.le_trans (Nat.le_trans hyl hi) hsz) (N₅ _ (.head _)).1 fun h₈ hs₈ hD₈ => ?_
          refine ⟨n + 1 - (i + 1), sub_dec (Nat.lt_succ_of_lt hlt), h₈, tk₅, i + 1, ys ++ [y], _, n₅, rfl, hlt, rfl, by rw [List.length_append, List.length_singleton]; exact Nat.succ_le_succ hyl, W.frame _ _ _ hst₅ fun b hb o e => hs₈.extBut b o (fun q => hDf (q ▸ hb)) e, F₅.change hs₈ hDL hD₀,
            hn₅.sameBut hs₈ (Ne.symm hDC), fun p hp => ?_, off₅, hJ₅⟩
          rcases List.mem_cons.mp hp with rfl | hp
          · exact ⟨hD₈.trans (congrArg some (lst_snoc ys y)), hDL, hD₀⟩
          · exact ⟨hs₈.extBut _ _ (fun q => off₅ p hp (by rw [q]; exact .head _)) (N₅ p (.tail _ hp)).1, (N₅ p (.tail _ hp)).2⟩
      · obtain rfl : i = n := Nat.le_antisymm hi (Nat.not_lt.mp hlt)
        refine W.done _ _ _ hst' fun h₂ tk₂ hk₂ => ?_
        obtain ⟨F₂, N₂, hn₂⟩ := wrD hk₂
        exact hRR _ _ h₂ tk₂ _ ys n₁ F₂ N₂ (fun p hp q => off' p hp (by rw [q]; exact .head _)) hn₂ hC₀ hD₀ hCL hDL (Ne.symm hDC) (fun p hp q => off' p hp (by rw [q]; exact .tail _ (.head _))) hJ
    · rcases List.mem_cons.mp hp with rfl | hp
      · exact ⟨hacc, hDL, hD₀⟩
      · exact ⟨old _ _ (N p hp).1, (N p hp).2⟩
  exact codeAny_compStart_list (loop _ rfl) (hself 0 _ _ _ hst₁ (loop _ rfl))
noncomputable def FinE (h₀ : Heap) (L : Addr) (m : Str → Option Value) (Q : Value → Shared → Prop) (s : Shared) (ys : List Value) (news : Led) : Prop :=
  ∀ D h tk, Fr h₀ L h m → News h₀ L h ((D, lst ys) :: news) → (∀ p ∈ news, p.1 ≠ D) → Q (.ref D) { s with heap := h, toks := tk }
noncomputable def FinA (h₀ : Heap) (L : Addr) (m : Str → Option Value) (y : Str) (Q : Flow → Shared → Prop) (s : Shared) (ys : List Value) (news : Led) : Prop :=
  ∀ D h tk, Fr h₀ L h (setN m y (.ref D)) → News h₀ L h ((D, lst ys) :: news) → (∀ p ∈ news, p.1 ≠ D) → Q .next { s with heap := h, toks := tk }
/-- a turn's work: what its tests and its element do -/
abbrev CTurn (prog : Program) (w : World) (A : Around) (h₀ : Heap) (L : Addr) (m : Str → Option Value) (env : Env) (elt : Expr) (ifs : List Expr) (scope : Scope) (cl : List (Str × Addr)) (s₂ : Shared) (fp wr : List Addr) (Z : Nat → (Str → Option Value) → Prop) (J : Nat → List Value → Led → Prop) (n : Nat) : Prop :=
  ∀ i ys n₁ own C D oC m₂ h tk (E' : Value → Shared → Prop), i < n → Z i m₂ → J i ys n₁ → Off (D :: C :: wr) n₁ → (∀ b ∈ D :: C :: wr, ∃ o, (b, o) ∈ (D, lst ys) :: (C, oC) :: own) → (∀ p ∈ own, p.1 ∈ fp) → NsObj oC m₂ → Fr h₀ L h m → News h₀ L h ((D, lst ys) :: (C, oC) :: (n₁ ++ own)) →
      wpAny (model prog w) A (testsOf ifs (compEnvC scope cl C env)) (fun ok s₄ =>
        if ok = true then wpAny (model prog w) A (eval elt (compEnvC scope cl C env)) (fun y s₅ => CE h₀ L m s₂ (D :: C :: wr) ((D, lst ys) :: (C, oC) :: own) (J (i + 1) (ys ++ [y])) s₅) E' s₄
        else CE h₀ L m s₂ (D :: C :: wr) ((D, lst ys) :: (C, oC) :: own) (J (i + 1) ys) s₄) E' { s₂ with heap := h, toks := tk }
/-- what the iterable's walk has to hand on -/
inductive CompAt (prog : Program) (w : World) (A : Around) (h₀ : Heap) (L : Addr) (m : Str → Option Value) (env : Env) (elt target : Expr) (ifs : List Expr) (scope : Scope) (cl : List (Str × Addr)) (Fin : Shared → List Value → Led → Prop) (it : Value) (s₂ : Shared) : Prop
  | mk : ∀ (I : Addr) (fp wr : List Addr) (n : Nat) (P Md : Nat → Value → Heap → Prop) (St : Nat → Heap → Prop) (Z : Nat → (Str → Option Value) → Prop) (news : Led) (J : Nat → List Value → Led → Prop), (it = .ref I) → (KTurns prog w A target I fp wr n P Md St) → ((∀ i h, St i h → ∀ b ∈ wr, ∃ o, h.get? b = some o)) → (n ≤ sizeLine) → (Asn prog w A env target scope cl P Z) → ((∀ i (s : Shared) (Q : Value → Shared → Prop) (E : Value → Shared → Prop), St i s.heap → Q (.ref I) s → wpAny (model prog w) A (pyIter (.ref I)) Q E s)) → (St 0 s₂.heap) → ((∀ b ∈ fp, b < s₂.heap.objs.size)) → ((∀ b ∈ wr, h₀.get? b = none)) → (L ∉ fp) → (Off wr news) → (Fr h₀ L s₂.heap m) → (News h₀ L s₂.heap news) → (J 0 [] news) → (CTurn prog w A h₀ L m env elt ifs scope cl s₂ fp wr Z J n) → ((∀ s₃ : Shared, (∃ h tk, s₃ = { s₂ with heap := h, toks := tk }) → ∀ ys n₁, J n ys n₁ → Fin s₃ ys n₁)) → CompAt prog w A h₀ L m env elt target ifs scope cl Fin it s₂
theorem ListComp_J {elt target iter : Expr} {ifs : List Expr} {scope : Scope} {cl : List (Str × Addr)} {pos : Pos} {Q : Value → Shared → Prop} (_F₀ : Fr h₀ L s.heap m)
    (hclos : closureFor scope env = pure cl) (hcell : ∀ y ∈ scope.names, y.2 ≠ .cell) (hkind : scope.kind = .function)
    (hnames : ∀ y ∈ scope.names, y.2 = .local → scope.names.lookup y.1 = some .local)
    (h : wpAny (model prog w) A (eval iter env) (fun xv s₁ => wpAny (model prog w) A (pyIter xv) (fun it s₂ => CompAt prog w A h₀ L m env elt target ifs scope cl (FinE h₀ L m Q) it s₂) E s₁) E s)
    (hs : ∀ x, foldedSetIterable iter env x = pure x := by intro _; rfl) :
    wpAny (model prog w) A (eval (.ListComp elt [⟨target, iter, ifs, 0⟩] scope pos) env) Q E s := by
  rw [eval_ListComp]
  refine wpAny_comprehension_free (use := none) rfl hs hclos hkind hnames (wpAny_mono h (fun xv s₁ h₁ => wpAny_mono h₁ (fun it s₂ h₂ => ?_) fun _ _ e => e) fun _ _ e => e)
  obtain ⟨I, fp, wr, n, P, Md, St, Z, news, J, rfl, W, hEx, hsz, hasn, hself, hst, hfp, hwr, hLf, hoff, F, N, h0, turn, fin⟩ := h₂
  refine comp_block W hEx hsz hcell hkind hasn hself hst hfp hwr hLf F N hoff J h0 turn ?_
  intro D C h tk m' ys n₁ F' N' hD hn hC₀ hD₀ hCL hDL hCD hC hJ
  refine ⟨m', hn, fun h'' hs'' => fin { s₂ with heap := h, toks := tk } ⟨h, tk, rfl⟩ ys n₁ hJ D h'' tk (F'.change hs'' hCL hC₀) (fun p hp => ?_) hD⟩
  refine ⟨hs''.extBut _ _ ?_ (N' p hp).1, (N' p hp).2⟩
  rcases List.mem_cons.mp hp with rfl | hp
  · exact Ne.symm hCD
  · exact hC p hp
theorem Assign_ListComp_J {elt target iter : Expr} {ifs : List Expr} {y : Str} {py : Pos} {scope : Scope} {cl : List (Str × Addr)} {pos spos : Pos} {Q : Flow → Shared → Prop} (_F₀ : Fr h₀ L s.heap m) (hLe : env.locals = L)
    (hsw : swapsWith (.ListComp elt [⟨target, iter, ifs, 0⟩] scope pos) (some (.Name y py)) spos.line env = pure true)
    (hclos : closureFor scope env = pure cl) (hcell : ∀ z ∈ scope.names, z.2 ≠ .cell) (hkind : scope.kind = .function)
    (hnames : ∀ z ∈ scope.names, z.2 = .local → scope.names.lookup z.1 = some .local)
    (hy : env.kindOf y = some .local) (hp : (env.scope.kind == .class || (env.scope.kind == .module && env.locals != env.globals)) = false)
    (h : wpAny (model prog w) A (eval iter env) (fun xv s₁ => wpAny (model prog w) A (pyIter xv) (fun it s₂ => CompAt prog w A h₀ L m env elt target ifs scope cl (FinA h₀ L m y Q) it s₂) E s₁) E s)
    (hs : ∀ x, foldedSetIterable iter env x = pure x := by intro _; rfl) :
    wpAny (model prog w) A (exec (.Assign [.Name y py] (.ListComp elt [⟨target, iter, ifs, 0⟩] scope pos) spos) env) Q E s := by
  subst hLe
  rw [exec_Assign_Name_used _ _ _ _ hsw]
  refine wpAny_bind (wpAny_standAt (wpAny_bind ?_))
  show wpAny _ A (do let _ ← comprehension (.ListComp elt [⟨target, iter, ifs, 0⟩] scope pos) scope env _ (newList []) false (eval iter env) (some (assign (.Name y py) env))) _ _ s
  refine wpAny_bind (wpAny_mono (wpAny_comprehension_free (use := some (assign (.Name y py) env)) (Q := fun _ s' => Q .next s') rfl hs hclos hkind hnames
    (wpAny_mono h (fun xv s₁ h₁ => wpAny_mono h₁ (fun it s₂ h₂ => ?_) fun _ _ e => e) fun _ _ e => e)) (fun _ s' hq => wpAny_pure (wpAny_pure hq)) fun _ _ e => e)
  obtain ⟨I, fp, wr, n, P, Md, St, Z, news, J, rfl, W, hEx, hsz, hasn, hself, hst, hfp, hwr, hLf, hoff, F, N, h0, turn, fin⟩ := h₂
  refine comp_block W hEx hsz hcell hkind hasn hself hst hfp hwr hLf F N hoff J h0 turn ?_
  intro D C h' tk m' ys n₁ F' N' hD hn hC₀ hD₀ hCL hDL hCD hC hJ
  show wpAny _ A (assign (.Name y py) env (.ref D)) _ _ _
  refine wpAny_assign_Name (wpAny_storeName_local hy F'.ns (fun h₂ hn₂ hs₂ => ?_) hp)
  have hL₀ : h₀.get? env.locals = none := Heap.get?_none_of_le F'.above
  have F₂ : Fr h₀ env.locals h₂ (fun z => if z = y then some (.ref D) else m z) := ⟨hn₂, fun b o e => hs₂.extBut b o (fun q => by rw [q, hL₀] at e; cases e) (F'.keep b o e), F'.above⟩
  refine ⟨m', hn.sameBut hs₂ hCL, fun h'' hs'' => fin { s₂ with heap := h', toks := tk } ⟨h', tk, rfl⟩ ys n₁ hJ D h'' _ (F₂.change hs'' hCL hC₀) (fun p hp => ?_) hD⟩
  have z : h₂.get? p.1 = some p.2 := hs₂.extBut _ _ (N' p hp).2.1 (N' p hp).1
  refine ⟨hs''.extBut _ _ ?_ z, (N' p hp).2⟩
  rcases List.mem_cons.mp hp with rfl | hp
  · exact Ne.symm hCD
  · exact hC p hp
section
variable {elt : Expr} {ifs : List Expr} {scope : Scope} {cl : List (Str × Addr)} {Fin : Shared → List Value → Led → Prop} {news : Led}
/-- a block over a list of the ledger, one name -/
theorem comp_list {x : Str} {px : Pos} {l : Addr} {vs : List Value} {k : Nat} (hh : A.handled = none) (F : Fr h₀ L s.heap m) (N : News h₀ L s.heap news) (hm : (l, listOf vs.toArray k) ∈ news) (hsz : vs.length ≤ sizeLine) (hkind : scope.kind = .function) (hx : scope.names.lookup x = some .local)
    (J : Nat → List Value → Led → Prop) (h0 : J 0 [] news)
    (turn : ∀ g, CTurn prog w A h₀ L m env elt ifs scope cl { s with heap := g } [s.heap.objs.size, l] [s.heap.objs.size] (fun i m₂ => ∃ v, vs[i]? = some v ∧ m₂ x = some v) J vs.length)
    (fin : ∀ g tk, ∀ ys n₁, J vs.length ys n₁ → Fin { s with heap := g, toks := tk } ys n₁) :
    wpAny (model prog w) A (pyIter (.ref l)) (fun it s₂ => CompAt prog w A h₀ L m env elt (.Name x px) ifs scope cl Fin it s₂) E s := by
  have hax := N _ hm
  have hl : s.heap.IsList l vs.toArray := ⟨_, hax.1, rfl, _, rfl⟩
  have hlt := Heap.lt_size hax.1
  have hne : l ≠ s.heap.objs.size := Nat.ne_of_lt hlt
  refine wpAny_pyIter_list hl ?_
  have W := Walks.list (prog := prog) (w := w) hh s.heap.objs.size l hne vs.toArray
  refine ⟨_, _, _, _, _, _, _, _, news, J, rfl, KTurns.ofWalks W fun i v s Q E st q => letGo_listiter st.1 q, fun i h st b hb => ?_, by simpa using hsz, asn_name hkind hx (Z := fun i v => vs[i]? = some v) (fun i v h hp => by simpa using hp), W.self, ⟨⟨_, Heap.get?_push_size _ rfl, rfl, rfl⟩, hl.push _⟩, fun b hb => ?_, fun b hb => ?_, ?_, fun p hp hI => ?_, F.push _, (fun p hp => ⟨Heap.get?_push_of_some _ (N p hp).1, (N p hp).2⟩), h0, ?_, fun s₃ e ys n₁ hj => ?_⟩
  · rw [List.mem_singleton.mp hb]
    obtain ⟨it, hit, _⟩ := st.1
    exact ⟨it, hit⟩
  · show b < (s.heap.push _).objs.size
    rw [Heap.size_push]
    rcases List.mem_cons.mp hb with rfl | hb
    · exact Nat.lt_succ_self _
    · rw [List.mem_singleton.mp hb]; exact Nat.lt_succ_of_lt hlt
  · rw [List.mem_singleton.mp hb]; exact next_is_new F
  · intro hI
    rcases List.mem_cons.mp hI with e | hI
    · exact absurd F.ns.lt (e ▸ Nat.lt_irrefl _)
    · exact hax.2.1 (List.mem_singleton.mp hI).symm
  · exact absurd (Heap.lt_size (N p hp).1) ((List.mem_singleton.mp hI) ▸ Nat.lt_irrefl _)
  · have := turn (s.heap.push { cls := .type "list_iterator", data := .fields #[.ref l, .int 0 0] })
    simpa using this
  · obtain ⟨h, tk, rfl⟩ := e
    exact fin h tk ys n₁ (by simpa using hj)
/-- a block over a tuple that stands somewhere -/
theorem comp_tuple {x : Str} {px : Pos} {l : Addr} {vs : List Value} (hh : A.handled = none) (F : Fr h₀ L s.heap m) (N : News h₀ L s.heap news) (hl : IsTup s.heap l vs.toArray) (hlL : l ≠ L) (hsz : vs.length ≤ sizeLine) (hkind : scope.kind = .function) (hx : scope.names.lookup x = some .local)
    (J : Nat → List Value → Led → Prop) (h0 : J 0 [] news)
    (turn : ∀ g, CTurn prog w A h₀ L m env elt ifs scope cl { s with heap := g } [s.heap.objs.size, l] [s.heap.objs.size] (fun i m₂ => ∃ v, vs[i]? = some v ∧ m₂ x = some v) J vs.length)
    (fin : ∀ g tk, ∀ ys n₁, J vs.length ys n₁ → Fin { s with heap := g, toks := tk } ys n₁) :
    wpAny (model prog w) A (pyIter (.ref l)) (fun it s₂ => CompAt prog w A h₀ L m env elt (.Name x px) ifs scope cl Fin it s₂) E s := by
  have hlt : l < s.heap.objs.size := by obtain ⟨o, e, _⟩ := hl; exact Heap.lt_size e
  have hne : l ≠ s.heap.objs.size := Nat.ne_of_lt hlt
  refine wpAny_pyIter_tuple hl ?_
  have W := Walks.tuple (prog := prog) (w := w) hh s.heap.objs.size l hne vs.toArray
  refine ⟨_, _, _, _, _, _, _, _, news, J, rfl, KTurns.ofWalks W fun i v s Q E st q => letGo_tupleiter st.1 q, fun i h st b hb => ?_, by simpa using hsz, asn_name hkind hx (Z := fun i v => vs[i]? = some v) (fun i v h hp => by simpa using hp), W.self, ⟨⟨_, Heap.get?_push_size _ rfl, rfl, rfl⟩, IsTup.keeps hl fun b o e => Heap.get?_push_of_some _ e⟩, fun b hb => ?_, fun b hb => ?_, ?_, fun p hp hI => ?_, F.push _, (fun p hp => ⟨Heap.get?_push_of_some _ (N p hp).1, (N p hp).2⟩), h0, ?_, fun s₃ e ys n₁ hj => ?_⟩
  · rw [List.mem_singleton.mp hb]
    obtain ⟨it, hit, _⟩ := st.1
    exact ⟨it, hit⟩
  · show b < (s.heap.push _).objs.size
    rw [Heap.size_push]
    rcases List.mem_cons.mp hb with rfl | hb
    · exact Nat.lt_succ_self _
    · rw [List.mem_singleton.mp hb]; exact Nat.lt_succ_of_lt hlt
  · rw [List.mem_singleton.mp hb]; exact next_is_new F
  · intro hI
    rcases List.mem_cons.mp hI with e | hI
    · exact absurd F.ns.lt (e ▸ Nat.lt_irrefl _)
    · exact hlL (List.mem_singleton.mp hI).symm
  · exact absurd (Heap.lt_size (N p hp).1) ((List.mem_singleton.mp hI) ▸ Nat.lt_irrefl _)
  · have := turn (s.heap.push { cls := .type "tuple_iterator", data := .fields #[.ref l, .int 0 0] })
    simpa using this
  · obtain ⟨h, tk, rfl⟩ := e
    exact fin h tk ys n₁ (by simpa using hj)
/-- a block over a range -/
theorem comp_range {x : Str} {px : Pos} {r : Addr} {a b c : Int} {t u v : Tok} {n : Nat} (hh : A.handled = none) (F : Fr h₀ L s.heap m) (N : News h₀ L s.heap news) (hr : IsRange s.heap r a b c t u v) (hsm : Builtin.Range.small a b c = true) (hn : Builtin.Range.rangeSize a b c = ((n : Nat) : Int)) (hsz : n ≤ sizeLine) (hkind : scope.kind = .function) (hx : scope.names.lookup x = some .local)
    (J : Nat → List Value → Led → Prop) (h0 : J 0 [] news)
    (turn : ∀ g, CTurn prog w A h₀ L m env elt ifs scope cl { s with heap := g } [s.heap.objs.size] [s.heap.objs.size] (fun i m₂ => ∃ v, (∃ t, v = .int (a + (i : Int) * c) t) ∧ m₂ x = some v) J n)
    (fin : ∀ g tk, ∀ ys n₁, J n ys n₁ → Fin { s with heap := g, toks := tk } ys n₁) :
    wpAny (model prog w) A (pyIter (.ref r)) (fun it s₂ => CompAt prog w A h₀ L m env elt (.Name x px) ifs scope cl Fin it s₂) E s := by
  refine wpAny_pyIter_range hr hsm ?_
  have W := Walks.range (prog := prog) (w := w) hh s.heap.objs.size a c n
  refine ⟨_, _, _, _, _, _, _, _, news, J, rfl, KTurns.ofWalks W fun i v s Q E st q => wpAny_of_eq (a := ()) rfl q, fun i h st b hb => ?_, hsz, asn_name hkind hx (Z := fun i v => ∃ t, v = .int (a + (i : Int) * c) t) (fun i v h hp => hp), W.self, ?_, fun b hb => ?_, fun b hb => ?_, ?_, fun p hp hI => ?_, F.push _, (fun p hp => ⟨Heap.get?_push_of_some _ (N p hp).1, (N p hp).2⟩), h0, turn _, fun s₃ e ys n₁ hj => ?_⟩
  · rw [List.mem_singleton.mp hb]; exact ⟨_, st⟩
  · show IsRangeIter _ _ _ _ _
    rw [hn]; simpa using Heap.get?_push_size _ rfl
  · show b < (s.heap.push _).objs.size
    rw [Heap.size_push, List.mem_singleton.mp hb]; exact Nat.lt_succ_self _
  · rw [List.mem_singleton.mp hb]; exact next_is_new F
  · intro hI
    exact absurd F.ns.lt ((List.mem_singleton.mp hI) ▸ Nat.lt_irrefl _)
  · exact absurd (Heap.lt_size (N p hp).1) ((List.mem_singleton.mp hI) ▸ Nat.lt_irrefl _)
  · obtain ⟨h, tk, rfl⟩ := e
    exact fin h tk ys n₁ hj
/-- a block over enumerate of a list -/
theorem comp_enum {xa xb : Str} {pa pb tp : Pos} {kk : Nat} {l : Addr} {vs : List Value} {k : Nat} (hh : A.handled = none) (F : Fr h₀ L s.heap m) (N : News h₀ L s.heap news) (hm : (l, listOf vs.toArray k) ∈ news) (hsz : vs.length ≤ sizeLine) (hkind : scope.kind = .function) (ha : scope.names.lookup xa = some .local) (hb : scope.names.lookup xb = some .local) (hab : xa ≠ xb)
    (J : Nat → List Value → Led → Prop) (h0 : J 0 [] news)
    (turn : ∀ g, CTurn prog w A h₀ L m env elt ifs scope cl { s with heap := g } [s.heap.objs.size + 1, s.heap.objs.size, l] [s.heap.objs.size + 1, s.heap.objs.size] (fun i m₂ => ∃ x y, (∃ t, x = .int (i : Int) t ∧ vs[i]? = some y) ∧ m₂ xa = some x ∧ m₂ xb = some y) J vs.length)
    (fin : ∀ g tk, ∀ ys n₁, J vs.length ys n₁ → Fin { s with heap := g, toks := tk } ys n₁) :
    wpAny (model prog w) A (call (.type "enumerate") [.ref l]) (fun xv s₁ => wpAny (model prog w) A (pyIter xv) (fun it s₂ => CompAt prog w A h₀ L m env elt (.Tuple [.Name xa pa, .Name xb pb] kk tp) ifs scope cl Fin it s₂) E s₁) E s := by
  have hax := N _ hm
  have hl : s.heap.IsList l vs.toArray := ⟨_, hax.1, rfl, _, rfl⟩
  have hlt : l < s.heap.objs.size := Heap.lt_size hax.1
  have hLs : L < s.heap.objs.size := F.ns.lt
  refine call_enumerate_list hl fun h' hE hI hsz' hk => ?_
  refine wpAny_pyIter_enum hE ?_
  have W := (WalksT.enumerate (prog := prog) (w := w) hh (s.heap.objs.size + 1) s.heap.objs.size l (Nat.succ_ne_self _) (ktu_ne 1 hlt) (Nat.ne_of_lt hlt) vs.toArray).toU
  refine ⟨_, _, _, _, _, _, _, _, news, J, rfl, KTurns.ofWalksU W, fun i h st b hb => ?_, by simpa using hsz, asn_pair hh hkind ha hb hab (Z := fun i x y => ∃ t, x = .int (i : Int) t ∧ vs[i]? = some y) (fun i v h hp => ?_), W.self, ⟨⟨.none, hE⟩, hI, hl.at fun o e => hk l o e⟩, fun b hb => ?_, fun b hb => ?_, ?_, fun p hp hI => ?_, F.keeps hk, N.grown hk, h0, ?_, fun s₃ e ys n₁ hj => ?_⟩
  · obtain ⟨⟨old, he⟩, ⟨oi, hoi, _⟩, _⟩ := st
    rcases List.mem_cons.mp hb with rfl | hb
    · exact ⟨_, he⟩
    · rw [List.mem_singleton.mp hb]; exact ⟨oi, hoi⟩
  · obtain ⟨T, vals, rfl, ⟨t, x, hx, rfl⟩, hT⟩ := hp
    exact ⟨T, _, x, rfl, hT, t, rfl, by simpa using hx⟩
  · show b < h'.objs.size
    rw [hsz']
    rcases List.mem_cons.mp hb with rfl | hb
    · exact Nat.lt_succ_self _
    · rcases List.mem_cons.mp hb with rfl | hb
      · exact Nat.lt_succ_of_lt (Nat.lt_succ_self _)
      · rw [List.mem_singleton.mp hb]; exact Nat.lt_succ_of_lt (Nat.lt_succ_of_lt hlt)
  · rcases List.mem_cons.mp hb with rfl | hb
    · exact ktu_new F (Nat.le_add_right _ _)
    · rw [List.mem_singleton.mp hb]; exact ktu_new F (Nat.le_refl _)
  · intro hI'
    rcases List.mem_cons.mp hI' with e | hI'
    · exact ktu_ne 1 hLs e
    · rcases List.mem_cons.mp hI' with e | hI'
      · exact Nat.ne_of_lt hLs e
      · exact hax.2.1 (List.mem_singleton.mp hI').symm
  · have hlp := Heap.lt_size (N p hp).1
    rcases List.mem_cons.mp hI with e | hI
    · exact ktu_ne 1 hlp e
    · exact Nat.ne_of_lt hlp (List.mem_singleton.mp hI)
  · have := turn h'
    simpa using this
  · obtain ⟨h, tk, rfl⟩ := e
    exact fin h tk ys n₁ (by simpa using hj)
/-- a block over a zip of two lists -/
theorem comp_zip {xa xb : Str} {pa pb tp : Pos} {kk : Nat} {l1 l2 : Addr} {us vs : List Value} {k1 k2 : Nat} (hh : A.handled = none) (F : Fr h₀ L s.heap m) (N : News h₀ L s.heap news) (hm1 : (l1, listOf us.toArray k1) ∈ news) (hm2 : (l2, listOf vs.toArray k2) ∈ news) (hsz : min us.length vs.length ≤ sizeLine) (hkind : scope.kind = .function) (ha : scope.names.lookup xa = some .local) (hb : scope.names.lookup xb = some .local) (hab : xa ≠ xb)
    (J : Nat → List Value → Led → Prop) (h0 : J 0 [] news)
    (turn : ∀ g, CTurn prog w A h₀ L m env elt ifs scope cl { s with heap := g } [s.heap.objs.size + 4, s.heap.objs.size + 2, s.heap.objs.size + 3, s.heap.objs.size, s.heap.objs.size + 1, l1, l2] [s.heap.objs.size + 4, s.heap.objs.size + 3, s.heap.objs.size, s.heap.objs.size + 1] (fun i m₂ => ∃ x y, (us[i]? = some x ∧ vs[i]? = some y) ∧ m₂ xa = some x ∧ m₂ xb = some y) J (min us.length vs.length))
    (fin : ∀ g tk, ∀ ys n₁, J (min us.length vs.length) ys n₁ → Fin { s with heap := g, toks := tk } ys n₁) :
    wpAny (model prog w) A (call (.type "zip") [.ref l1, .ref l2]) (fun xv s₁ => wpAny (model prog w) A (pyIter xv) (fun it s₂ => CompAt prog w A h₀ L m env elt (.Tuple [.Name xa pa, .Name xb pb] kk tp) ifs scope cl Fin it s₂) E s₁) E s := by
  have hax1 := N _ hm1
  have hax2 := N _ hm2
  have hl1 : s.heap.IsList l1 us.toArray := ⟨_, hax1.1, rfl, _, rfl⟩
  have hl2 : s.heap.IsList l2 vs.toArray := ⟨_, hax2.1, rfl, _, rfl⟩
  have hlt1 : l1 < s.heap.objs.size := Heap.lt_size hax1.1
  have hlt2 : l2 < s.heap.objs.size := Heap.lt_size hax2.1
  have hLs : L < s.heap.objs.size := F.ns.lt
  have D := ktu_apart s.heap.objs.size l1 l2 hlt1 hlt2
  refine call_zip_2 hl1 hl2 fun h' hz hTI hTO hi1 hi2 hsz' hk => ?_
  refine wpAny_pyIter_zip hz ?_
  have W := (WalksT.zip2 (prog := prog) (w := w) hh _ _ _ _ _ _ _ D us.toArray vs.toArray).toU
  refine ⟨_, _, _, _, _, _, _, _, news, J, rfl, KTurns.ofWalksU W, fun i h st b hb => ?_, by simpa using hsz, asn_pair hh hkind ha hb hab (Z := fun i x y => us[i]? = some x ∧ vs[i]? = some y) (fun i v h hp => ?_), W.self, ⟨hz, hTI, ⟨_, _, hTO⟩, hi1, hi2, hl1.at fun o e => hk l1 o e, hl2.at fun o e => hk l2 o e⟩, fun b hb => ?_, fun b hb => ?_, ?_, fun p hp hI => ?_, F.keeps hk, N.grown hk, h0, ?_, fun s₃ e ys n₁ hj => ?_⟩
  · obtain ⟨hz, hTI, ⟨a, b', hTO⟩, ⟨o1, ho1, _⟩, ⟨o2, ho2, _⟩, _⟩ := st
    have hb' : b = s.heap.objs.size + 4 ∨ b = s.heap.objs.size + 3 ∨ b = s.heap.objs.size ∨ b = s.heap.objs.size + 1 := by simpa using hb
    rcases hb' with rfl | rfl | rfl | rfl
    · exact ⟨_, hz⟩
    · exact ⟨_, hTO⟩
    · exact ⟨_, ho1⟩
    · exact ⟨_, ho2⟩
  · obtain ⟨T, vals, rfl, ⟨x, y, hx, hy, rfl⟩, hT⟩ := hp
    exact ⟨T, x, y, rfl, hT, by simpa using hx, by simpa using hy⟩
  · show b < h'.objs.size
    have hb' : b = s.heap.objs.size + 4 ∨ b = s.heap.objs.size + 2 ∨ b = s.heap.objs.size + 3 ∨ b = s.heap.objs.size ∨ b = s.heap.objs.size + 1 ∨ b = l1 ∨ b = l2 := by simpa using hb
    refine ltN ?_
    have a1 := ltN hlt1
    have a2 := ltN hlt2
    have a3 : (h'.objs.size : Nat) = s.heap.objs.size + 5 := hsz'
    rcases hb' with rfl | rfl | rfl | rfl | rfl | rfl | rfl <;> omega
  · have hb' : b = s.heap.objs.size + 4 ∨ b = s.heap.objs.size + 3 ∨ b = s.heap.objs.size ∨ b = s.heap.objs.size + 1 := by simpa using hb
    rcases hb' with rfl | rfl | rfl | rfl
    · exact ktu_new F (Nat.le_add_right _ _)
    · exact ktu_new F (Nat.le_add_right _ _)
    · exact ktu_new F (Nat.le_refl _)
    · exact ktu_new F (Nat.le_add_right _ _)
  · intro hI'
    have hb' : L = s.heap.objs.size + 4 ∨ L = s.heap.objs.size + 2 ∨ L = s.heap.objs.size + 3 ∨ L = s.heap.objs.size ∨ L = s.heap.objs.size + 1 ∨ L = l1 ∨ L = l2 := by simpa using hI'
    rcases hb' with e | e | e | e | e | e | e
    · exact ktu_ne 4 hLs e
    · exact ktu_ne 2 hLs e
    · exact ktu_ne 3 hLs e
    · exact Nat.ne_of_lt hLs e
    · exact ktu_ne 1 hLs e
    · exact hax1.2.1 e.symm
    · exact hax2.2.1 e.symm
  · have hlp := Heap.lt_size (N p hp).1
    have hb' : p.1 = s.heap.objs.size + 4 ∨ p.1 = s.heap.objs.size + 3 ∨ p.1 = s.heap.objs.size ∨ p.1 = s.heap.objs.size + 1 := by simpa using hI
    rcases hb' with e | e | e | e
    · exact ktu_ne 4 hlp e
    · exact ktu_ne 3 hlp e
    · exact Nat.ne_of_lt hlp e
    · exact ktu_ne 1 hlp e
  · have := turn h'
    simpa using this
  · obtain ⟨h, tk, rfl⟩ := e
    exact fin h tk ys n₁ (by simpa using hj)
end
end
end
open LCg (lst NsObj ns_obj lst_snoc)
local macro_rules | `(tactic| k_room) => `(tactic| ktr_room)
local macro_rules | `(tactic| news_mem) => `(tactic| k_mem)
local macro_rules | `(tactic| k_mem) => `(tactic| ((repeat (first | exact List.mem_cons_self | refine List.mem_cons_of_mem _ ?_)); first | done | assumption))
local macro_rules | `(tactic| k_all) => `(tactic| first | assumption | exact fun p hp => Nat.ne_of_lt (tb_ltOf (by assumption) p hp))
local macro_rules | `(tactic| walk_at $s:str) => `(tactic| k_extra $s)
local macro_rules | `(tactic| walk_at "TurnPost") => `(tactic| first | refine turn_n ?_ | refine turn_r ?_)
local macro_rules | `(tactic| walk_at "eval Constant int") => `(tactic| refine constI ?_)
local macro_rules | `(tactic| walk_at "eval Constant str") => `(tactic| refine constS ?_)
local macro_rules | `(tactic| walk_at "binaryOp Add int int") => `(tactic| refine addI ?_)
local macro_rules | `(tactic| walk_at "binaryOp Sub int int") => `(tactic| refine subI ?_)
local macro_rules | `(tactic| walk_at "execs cons") => `(tactic| (k_dflt (refine execs_nm ?_; intro q9 tk9 hn9 hr9)))
local macro_rules | `(tactic| walk_at "Nm") => `(tactic| (k_dflt (first | (refine' nm_n ?h ?_; (case h => with_reducible assumption)) | (refine' nm_r ?h ?_; (case h => with_reducible assumption)) | (refine' nm_use ?h ?_; (case h => with_reducible assumption); (try dsimp only)) | (refine' nm_out ?h ?_; (case h => with_reducible assumption); (try dsimp only)))))
local macro_rules | `(tactic| walk_at "storeName") => `(tactic| (k_here; k_dflt (refine' storeX_N ?F ?N ?_ ?a ?b; (case F => k_asm); (case N => k_asm); (case a => rfl); (case b => rfl); k_whole; intro h' F' N'; (try k_sweep))))
local macro_rules | `(tactic| k_steps) => `(tactic| repeat' (first | (k_unfold; (try dsimp only)) | (k_end; wrow_close) | (walk1 <;> (try ((fail_if_success (with_reducible show wpAny _ _ (subscriptTail _ (PySem.Expr.Slice _ _ _ _) (Value.ref _) (Value.ref _)) _ _ _)); dsimp only))) | (leave1; (try dsimp only)) | fail "no step"))
local macro_rules | `(tactic| omega) => `(tactic| with_reducible ((fail_if_success show False); first | assumption | decide | ((show _ ≠ _); first | exact ne_s1 | exact ne_s2 | exact ne_s3 | exact ne_t1 | exact ne_t2 | exact ne_t3 | exact Ne.symm ‹_› | exact ne_u0 ‹_› | exact ne_u1 ‹_› | exact ne_u2 ‹_› | exact ne_u3 ‹_› | exact ne_u4 ‹_› | exact ne_v0 ‹_› | exact ne_v1 ‹_› | exact ne_v2 ‹_› | exact ne_v3 ‹_› | exact ne_v4 ‹_› | ((rename _ < _ ∧ _ => h9); refine Nat.ne_of_gt ?_; revert h9; (repeat (first | exact And.left | refine and_dn ?_)); done)) | exact nle ‹_› | exact ilt ‹_› | exact ile ‹_› | exact dlt ‹_› | exact room_k3 ‹_› | exact room_k2 ‹_› | exact room_k0 ‹_› | exact nlt ‹_› | exact nn0 | exact nn1 | exact neg_le_nat | exact neg_lt_nat | exact mul_one0 | exact to_nat00 | exact ofn_lt ‹_› | exact ofn_le ‹_› | exact nn2 ‹_› | exact eq_le ‹_› ‹_› | exact le_eq_le ‹_› ‹_› | exact int_small ‹_› ‹_› | exact int_le ‹_› | exact int_lt ‹_› | exact to_nat0 ‹_› | exact draw_len ‹_› ‹_› | exact neg_lt ‹_› | exact neg_le' ‹_› | exact nn3 ‹_› | exact nn4 ‹_› | exact le_s1 | exact le_s2 | exact le_s3 | exact le_s4 | exact div_cap ‹_› | exact add_cap ‹_› ‹_› | exact cap1 ‹_› | exact cap2 ‹_› | ((show _ < ((List.length _ : Nat) : Int)); exact len_lt ‹_›)))
local macro_rules | `(tactic| ktr_room) => `(tactic| ((with_reducible rename _ + _ < recursionLimit => h9); first | exact room_k3 h9 | exact room_k2 h9 | exact room_k0 h9))
local macro_rules | `(tactic| ktr_units) => `(tactic| ((with_reducible rename _ + _ < cLine => h9); first | exact room_k3 h9 | exact room_k2 h9 | exact room_k0 h9))
local macro_rules | `(tactic| ke_room) => `(tactic| ((with_reducible rename _ + _ < cLine => h9); first | exact room_k3 h9 | exact room_k2 h9 | exact room_k0 h9))
theorem fillK (w : World) : hdT.heap_1 w.params = hdT.heap_1 w.params ∧ PySem.Challenge.rw_nt0006_01 = PySem.Challenge.rw_nt0006_01 := by
  k_fill
  exact ⟨rfl, rfl⟩
-- P2
example : True := by w_top off; k_with_none; trivial
abbrev Kont := (Value → Led → Prop) → Prop
/-- a call's contract -/
noncomputable def Con (w : World) (f : Addr) (args : List Value) (dd uu : Nat) (news : Led) (P : Kont) : Prop :=
  ∀ (loose : List Str) (mean : ExcName → Option Value) (mg mb : Str → Option Value) (dp un : Nat) (gd : Option (List Code)) (cn : Str) (cs : Scope) (a : Addr) (ccd : Value) (cl : List (Str × Addr)) (outer : List Env) (A₀ : Around) (base h₀ : Heap) (L : Addr) (m : Str → Option Value) (s : Shared)
    (Q E : Value → Shared → Prop),
    Below A₀ base outer h₀ → Fr h₀ L s.heap m → (hdT.heap_1 w.params).In h₀ → News h₀ L s.heap news → Top topProg loose mean mg mb h₀ → cs.kind = .function → dp + dd < recursionLimit → un + uu < cLine →
    P (fun r news' => ∀ h' tk', Fr h₀ L h' m → News h₀ L h' news' → Q r { s with heap := h', toks := tk' }) →
    wpAny (model PySem.Challenge.rw_nt0006_01.row.prog w) (ktrTop dp un gd cn cs L a ccd cl outer) (call (.ref f) args) Q E s
theorem Con.use {w : World} {f : Addr} {args : List Value} {dd uu : Nat} {news : Led} {P : Kont} (C : Con w f args dd uu news P)
    {loose : List Str} {mean : ExcName → Option Value} {mg mb : Str → Option Value} {dp un : Nat} {gd : Option (List Code)} {cn : Str} {cs : Scope} {a : Addr} {ccd : Value} {cl : List (Str × Addr)} {outer : List Env} {A₀ : Around} {base h₀ : Heap} {L : Addr} {m : Str → Option Value} {h0 : Heap} {gg : Array GenState} {dd9 : Drawn} {tk0 : Nat} {oo : OsState}
    {Q E : Value → Shared → Prop}
    (B : Below A₀ base outer h₀) (F : Fr h₀ L h0 m) (X : (hdT.heap_1 w.params).In h₀) (N : News h₀ L h0 news) (T : Top topProg loose mean mg mb h₀) (hk : cs.kind = .function) (hd' : dp + dd < recursionLimit) (hu : un + uu < cLine)
    (h : P (fun r news' => ∀ h' tk', Fr h₀ L h' m → News h₀ L h' news' → Q r ⟨h', gg, dd9, tk', oo⟩)) :
    wpAny (model PySem.Challenge.rw_nt0006_01.row.prog w) (ktrTop dp un gd cn cs L a ccd cl outer) (call (.ref f) args) Q E ⟨h0, gg, dd9, tk0, oo⟩ :=
  C loose mean mg mb dp un gd cn cs a ccd cl outer A₀ base h₀ L m ⟨h0, gg, dd9, tk0, oo⟩ Q E B F X N T hk hd' hu h
/-- the way out of a def's own frame -/
noncomputable def Lv (g : Heap) (L : Addr) (q : Flow → Shared → Prop) (gg : Array GenState) (dd : Drawn) (oo : OsState) (k : Value → Led → Prop) : Prop :=
  (∀ r n h' tk' m', k r n → Fr g L h' m' → News g L h' n → Nm q (.ret r) ⟨h', gg, dd, tk', oo⟩) ∧ ∀ s', Nm q (.ret .none) s' → Nm q .next s'
section
variable {g h' : Heap} {L : Addr} {q : Flow → Shared → Prop} {gg : Array GenState} {dd : Drawn} {oo : OsState} {k : Value → Led → Prop} {m : Str → Option Value} {news : Led} {tk' : Nat}
theorem Lv.go {r : Value} (lv : Lv g L q gg dd oo k) (hk : k r news) (F : Fr g L h' m) (N : News g L h' news) : Nm q (.ret r) ⟨h', gg, dd, tk', oo⟩ := lv.1 _ _ _ _ _ hk F N
theorem Lv.fin (lv : Lv g L q gg dd oo k) (hk : k .none news) (F : Fr g L h' m) (N : News g L h' news) : Nm q .next ⟨h', gg, dd, tk', oo⟩ := lv.2 _ (lv.go hk F N)
theorem retB {x y : Bool} (lv : Lv g L q gg dd oo k) (hret : k (.bool x) news) (e : y = x) (F : Fr g L h' m) (N : News g L h' news) : Nm q (.ret (.bool y)) ⟨h', gg, dd, tk', oo⟩ := by
  subst e; exact lv.go hret F N
theorem retI {x y : Int} {t : Tok} (lv : Lv g L q gg dd oo k) (hret : ∀ t, k (.int x t) news) (e : y = x) (F : Fr g L h' m) (N : News g L h' news) : Nm q (.ret (.int y t)) ⟨h', gg, dd, tk', oo⟩ := by
  subst e; exact lv.go (hret _) F N
theorem retS {x y : Str} {t : Tok} (lv : Lv g L q gg dd oo k) (hret : ∀ t, k (.str x t) news) (e : y = x) (F : Fr g L h' m) (N : News g L h' news) : Nm q (.ret (.str y t)) ⟨h', gg, dd, tk', oo⟩ := by
  subst e; exact lv.go (hret _) F N
end
theorem nameAEX {M : Model} {A : Around} {body : List Stmt} {e : Env} {Q : Flow → Shared → Prop} {E : Value → Shared → Prop} {s : Shared} (h : let Av := A; let Ev := e; let Xv := E; wpAny M Av (execs body Ev) Q Xv s) : wpAny M A (execs body e) Q E s := h
theorem nameAE {M : Model} {A : Around} {body : List Stmt} {e : Env} {Q : Flow → Shared → Prop} {E : Value → Shared → Prop} {s : Shared} (h : let Av := A; let Ev := e; wpAny M Av (execs body Ev) Q E s) : wpAny M A (execs body e) Q E s := h
section
variable {w : World} {f : Addr} {args : List Value} {dd uu : Nat} {news : Led} {P : Kont} {name qual : Str} {params : Arguments} {body : List Stmt} {scope : Scope} {dV kV doc pm cdv ct oc : Value} {an od : Option Addr} {osl : Array (Option Value)}
theorem Con.enter (binds rb : List (Str × Value)) (d u : Nat) (hrb : binds.reverse = rb) (ho : (hdT.heap_1 w.params).lookup f = some ⟨oc, od, .func (fnOf name qual params body scope dV kV doc pm an cdv ct), osl⟩) (hcd : codeIn (hdT.heap_1 w.params) cdv qual = true)
    (hd : d + 1 ≤ dd) (hu : u + 3 ≤ uu) (hbind : ∀ s : Shared, (hdT.heap_1 w.params).In s.heap → BindsTo s (fnOf name qual params body scope dV kV doc pm an cdv ct) ⟨args, []⟩ binds) (hloc : ∀ y ∈ binds, scope.names.lookup y.1 = some .local)
    (h : ∀ (loose : List Str) (mean : ExcName → Option Value) (mg mb : Str → Option Value) (dp un : Nat) (gd : Option (List Code)) (outer : List Env) (A₀ : Around) (base g h₁ : Heap) (L' : Addr) (q : Flow → Shared → Prop) (gg : Array GenState) (dd : Drawn) (oo : OsState) (tk : Nat) (k : Value → Led → Prop),
      Below A₀ base outer g → (hdT.heap_1 w.params).In g → Top topProg loose mean mg mb g → dp + d < recursionLimit → un + u < cLine → Fr g L' h₁ (fun y => List.lookup y rb) → News g L' h₁ news → P k → Lv g L' q gg dd oo k →
      wpAny (model PySem.Challenge.rw_nt0006_01.row.prog w) (ktrTop dp un gd qual scope L' f cdv [] outer) (execs body (envOf qual scope L' f cdv)) (Nm q) (fun _ _ => False) ⟨h₁, gg, dd, tk, oo⟩)
    (hco : scope.isCoroutine = false) (hgen : scope.isGenerator = false) (hk : scope.kind = .function) (hcell : ∀ x ∈ scope.names, x.2 ≠ .cell) : Con w f args dd uu news P := by
  subst hrb
  intro loose mean mg mb dp un gd cn cs a ccd cl outer A₀ base h₀ L m s Q E B F X N T hk0 hdp hun hret
  refine wpAny_call ?_
  refine code_def B F X N T rfl rfl hk0 ho hcd (room_k0 hdp) (hbind s (X.keeps F.keep)) hloc (fun g L' h₁ FG F' N' B' X' T' => ?_) hco hgen hk hcell
  exact wpAny_noRaise (h loose mean mg mb (dp + 1) (un + 3) gd (envX cn cs L a ccd cl :: outer) _ base g h₁ L' _ s.gens s.drawn s.os _ _ B' X' T' (by omega) (by omega) F' N' hret
    ⟨fun r n h' tk' m' hk F'' N'' => ⟨L', m', n, F'', N'', fun F0 N0 => hk _ _ F0 N0⟩, fun _ x => x⟩)
theorem Con.enterC (binds : List (Str × Value)) (d u : Nat) (ho : (hdT.heap_1 w.params).lookup f = some ⟨oc, od, .func (fnOf name qual params body scope dV kV doc pm an cdv ct), osl⟩) (hcd : codeIn (hdT.heap_1 w.params) cdv qual = true)
    (hd : d + 1 ≤ dd) (hu : u + 3 ≤ uu) (hbind : ∀ s : Shared, (hdT.heap_1 w.params).In s.heap → BindsTo s (fnOf name qual params body scope dV kV doc pm an cdv ct) ⟨args, []⟩ binds)
    (hkind : (binds.all fun y => scope.names.lookup y.1 == some .local || scope.names.lookup y.1 == some .cell) = true) (hnd : ((cellsFrom 0 scope.names []).map (·.1)).Nodup)
    (h : ∀ (loose : List Str) (mean : ExcName → Option Value) (mg mb : Str → Option Value) (dp un : Nat) (gd : Option (List Code)) (outer : List Env) (A₀ : Around) (base g h₁ : Heap) (L' : Addr) (q : Flow → Shared → Prop) (gg : Array GenState) (dd : Drawn) (oo : OsState) (tk : Nat) (cells : Led) (k : Value → Led → Prop),
      Below A₀ base outer g → (hdT.heap_1 w.params).In g → Top topProg loose mean mg mb g → dp + d < recursionLimit → un + u < cLine → Fr g L' h₁ (bindL (envOfC qual scope L' f cdv).kindOf binds fun _ => none) → News g L' h₁ (cells ++ news) →
      CellsAre (bindC (envOfC qual scope L' f cdv).kindOf binds fun _ => none) (cellsFrom (L' + 1) scope.names []) cells → (∀ p ∈ news, p.1 < L') → P k → Lv g L' q gg dd oo k →
      wpAny (model PySem.Challenge.rw_nt0006_01.row.prog w) (ktrTop dp un gd qual scope L' f cdv (cellsFrom (L' + 1) scope.names []) outer) (execs body (envOfC qual scope L' f cdv)) (Nm q) (fun _ _ => False) ⟨h₁, gg, dd, tk, oo⟩)
    (hco : scope.isCoroutine = false) (hgen : scope.isGenerator = false) (hk : scope.kind = .function) : Con w f args dd uu news P := by
  intro loose mean mg mb dp un gd cn cs a ccd cl outer A₀ base h₀ L m s Q E B F X N T hk0 hdp hun hret
  refine wpAny_call ?_
  refine code_defC B F X N T rfl rfl hk0 ho hcd (room_k0 hdp) (hbind s (X.keeps F.keep)) hkind hnd (fun g L' h₁ tk cells FG F' N' Y' B' X' T' l => ?_) hco hgen hk
  exact wpAny_noRaise (h loose mean mg mb (dp + 1) (un + 3) gd (envX cn cs L a ccd cl :: outer) _ base g h₁ L' _ s.gens s.drawn s.os tk cells _ B' X' T' (by omega) (by omega) F' N' Y' l hret
    ⟨fun r n h' tk' m' hk F'' N'' => ⟨L', m', n, F'', N'', fun F0 N0 => hk _ _ F0 N0⟩, fun _ x => x⟩)
end
noncomputable def isHigh (c : Int) : Bool := decide (55296 ≤ c) && decide (c ≤ 56319)
noncomputable def isLow (c : Int) : Bool := decide (56320 ≤ c) && decide (c ≤ 57343)
noncomputable def isSur (c : Int) : Bool := decide (55296 ≤ c) && decide (c ≤ 57343)
noncomputable def isScal (c : Int) : Bool := (decide (0 ≤ c) && decide (c ≤ 1114111)) && !isSur c
theorem con_is_high (w : World) (news : Led) (c : Int) (t : Tok) :
    Con w 73 [.int c t] 4 50 news (fun k => k (.bool (isHigh c)) news) := by
  k_with_none
  refine' Con.enter [(Str.ofString "code", .int c t)] [(Str.ofString "code", .int c t)] 3 47 rfl ?k6 ?k7 ?kd ?ku ?k9 ?kB ?_ ?c2 ?c3 ?c4 ?c5
  case k6 => k_is
  case k7 => k_is
  case kd => decide
  case ku => decide
  case k9 => intro s9 X9; first | exact BindsTo.of_eq rfl | exact binds_K (by k_in) rfl (by k_is) rfl rfl rfl
  case c5 => decide
  case kB => exact locs rfl
  case c2 => exact rfl
  case c3 => exact rfl
  case c4 => exact rfl
  intro loose mean mg mb dp un gd outer A₀ base g' h' L' q0 gg dd oo tk0 k0 B' X' T' hdp hun F' N' hret lv
  refine nameAE ?_
  intro Av Ev
  k_steps
  all_goals (refine retB lv hret ?_ (by k_asm) (by k_asm); (simp only [isHigh]; cb_eq))
theorem con_is_low (w : World) (news : Led) (c : Int) (t : Tok) :
    Con w 80 [.int c t] 4 50 news (fun k => k (.bool (isLow c)) news) := by
  k_with_none
  refine' Con.enter [(Str.ofString "code", .int c t)] [(Str.ofString "code", .int c t)] 3 47 rfl ?k6 ?k7 ?kd ?ku ?k9 ?kB ?_ ?c2 ?c3 ?c4 ?c5
  case k6 => k_is
  case k7 => k_is
  case kd => decide
  case ku => decide
  case k9 => intro s9 X9; first | exact BindsTo.of_eq rfl | exact binds_K (by k_in) rfl (by k_is) rfl rfl rfl
  case c5 => decide
  case kB => exact locs rfl
  case c2 => exact rfl
  case c3 => exact rfl
  case c4 => exact rfl
  intro loose mean mg mb dp un gd outer A₀ base g' h' L' q0 gg dd oo tk0 k0 B' X' T' hdp hun F' N' hret lv
  refine nameAE ?_
  intro Av Ev
  k_steps
  all_goals (refine retB lv hret ?_ (by k_asm) (by k_asm); (simp only [isLow]; cb_eq))
theorem con_is_sur (w : World) (news : Led) (c : Int) (t : Tok) :
    Con w 87 [.int c t] 4 50 news (fun k => k (.bool (isSur c)) news) := by
  k_with_none
  refine' Con.enter [(Str.ofString "code", .int c t)] [(Str.ofString "code", .int c t)] 3 47 rfl ?k6 ?k7 ?kd ?ku ?k9 ?kB ?_ ?c2 ?c3 ?c4 ?c5
  case k6 => k_is
  case k7 => k_is
  case kd => decide
  case ku => decide
  case k9 => intro s9 X9; first | exact BindsTo.of_eq rfl | exact binds_K (by k_in) rfl (by k_is) rfl rfl rfl
  case c5 => decide
  case kB => exact locs rfl
  case c2 => exact rfl
  case c3 => exact rfl
  case c4 => exact rfl
  intro loose mean mg mb dp un gd outer A₀ base g' h' L' q0 gg dd oo tk0 k0 B' X' T' hdp hun F' N' hret lv
  refine nameAE ?_
  intro Av Ev
  k_steps
  all_goals (refine retB lv hret ?_ (by k_asm) (by k_asm); (simp only [isSur]; cb_eq))
noncomputable def isCode (c : Int) : Bool := decide (0 ≤ c) && decide (c ≤ 1114111)
theorem con_is_code (w : World) (news : Led) (c : Int) (t : Tok) :
    Con w 66 [.int c t] 4 50 news (fun k => k (.bool (isCode c)) news) := by
  k_with_none
  refine' Con.enter [(Str.ofString "number", .int c t)] [(Str.ofString "number", .int c t)] 3 47 rfl ?k6 ?k7 ?kd ?ku ?k9 ?kB ?_ ?c2 ?c3 ?c4 ?c5
  case k6 => k_is
  case k7 => k_is
  case kd => decide
  case ku => decide
  case k9 => intro s9 X9; first | exact BindsTo.of_eq rfl | exact binds_K (by k_in) rfl (by k_is) rfl rfl rfl
  case c5 => decide
  case kB => exact locs rfl
  case c2 => exact rfl
  case c3 => exact rfl
  case c4 => exact rfl
  intro loose mean mg mb dp un gd outer A₀ base g' h' L' q0 gg dd oo tk0 k0 B' X' T' hdp hun F' N' hret lv
  refine nameAE ?_
  intro Av Ev
  k_steps
  all_goals (refine retB lv hret ?_ (by k_asm) (by k_asm); (simp only [isCode]; cb_eq))
theorem con_is_scalar (w : World) (news : Led) (c : Int) (t : Tok) :
    Con w 94 [.int c t] 8 100 news (fun k => k (.bool (isScal c)) news) := by
  k_with_none
  k_with_none
  refine' Con.enter [(Str.ofString "number", .int c t)] [(Str.ofString "number", .int c t)] 7 97 rfl ?k6 ?k7 ?kd ?ku ?k9 ?kB ?_ ?c2 ?c3 ?c4 ?c5
  case k6 => k_is
  case k7 => k_is
  case kd => decide
  case ku => decide
  case k9 => intro s9 X9; first | exact BindsTo.of_eq rfl | exact binds_K (by k_in) rfl (by k_is) rfl rfl rfl
  case c5 => decide
  case kB => exact locs rfl
  case c2 => exact rfl
  case c3 => exact rfl
  case c4 => exact rfl
  intro loose mean mg mb dp un gd outer A₀ base g' h' L' q0 gg dd oo tk0 k0 B' X' T' hdp hun F' N' hret lv
  refine nameAE ?_
  intro Av Ev
  k_with "call ref" => (k_here; k_dflt (refine' Con.use ?kC ?k1 ?k2 ?k3 ?k4 ?k5 ?kK ?kd ?ku ?_; (case k2 => k_asm); (case k4 => k_asm); (case kC => exact con_is_code _ _ _ _); (case k1 => k_asm); (case k3 => k_asm); (case k5 => k_asm); (case kK => first | exact rfl | assumption); (case kd => ktr_room); (case ku => ktr_units); intro h9 tk9 F9 N9; (try dsimp only); (try k_fold)))
  k_with "call ref" => (k_here; k_dflt (refine' Con.use ?kC ?k1 ?k2 ?k3 ?k4 ?k5 ?kK ?kd ?ku ?_; (case k2 => k_asm); (case k4 => k_asm); (case kC => exact con_is_sur _ _ _ _); (case k1 => k_asm); (case k3 => k_asm); (case k5 => k_asm); (case kK => first | exact rfl | assumption); (case kd => ktr_room); (case ku => ktr_units); intro h9 tk9 F9 N9; (try dsimp only); (try k_fold)))
  k_steps
  all_goals (refine retB lv hret ?_ (by k_asm) (by k_asm); show _ = (isCode c && !isSur c); simp only [*, Bool.true_and, Bool.false_and])
theorem tn1 (n : Nat) : ((n : Int) - 1).toNat = n - 1 := Int.toNat_sub n 1
theorem tn2 (n : Nat) : ((n : Int) + 1).toNat = n + 1 := rfl
noncomputable def faultS (us : List Int) (k : Nat) : String :=
  if isLow (us.getD k 0) then (if 0 < k && isHigh (us.getD (k - 1) 0) then "" else "low")
  else if isHigh (us.getD k 0) then (if k + 1 < us.length && isLow (us.getD (k + 1) 0) then "" else "high") else ""
theorem fault_a {us : List Int} {k : Nat} (h : isLow (us.getD k 0) = true) (h1 : 0 < (k : Int)) (h2 : isHigh (us.getD ((k : Int) - 1).toNat 0) = true) : "" = faultS us k := by
  rw [tn1] at h2
  rw [faultS, if_pos h, if_pos (by rw [Bool.and_eq_true, decide_eq_true_eq]; exact ⟨Int.ofNat_lt.mp h1, h2⟩)]
theorem fault_b {us : List Int} {k : Nat} (h : isLow (us.getD k 0) = true) (h2 : isHigh (us.getD ((k : Int) - 1).toNat 0) = false) : "low" = faultS us k := by
  rw [tn1] at h2
  rw [faultS, if_pos h, if_neg (by rw [h2, Bool.and_false]; decide)]
theorem fault_c {us : List Int} {k : Nat} (h : isLow (us.getD k 0) = true) (h1 : ¬ 0 < (k : Int)) : "low" = faultS us k := by
  rw [faultS, if_pos h, if_neg (by rw [Bool.and_eq_true, decide_eq_true_eq]; exact fun x => h1 (Int.ofNat_lt.mpr x.1))]
theorem fault_d {us : List Int} {k : Nat} (h : isLow (us.getD k 0) = false) (h0 : isHigh (us.getD k 0) = true) (h1 : (k : Int) + 1 < (us.length : Int)) (h2 : isLow (us.getD ((k : Int) + 1).toNat 0) = true) : "" = faultS us k := by
  rw [tn2] at h2
  rw [faultS, if_neg (by rw [h]; decide), if_pos h0, if_pos (by rw [Bool.and_eq_true, decide_eq_true_eq]; exact ⟨Int.ofNat_lt.mp h1, h2⟩)]
theorem fault_e {us : List Int} {k : Nat} (h : isLow (us.getD k 0) = false) (h0 : isHigh (us.getD k 0) = true) (h2 : isLow (us.getD ((k : Int) + 1).toNat 0) = false) : "high" = faultS us k := by
  rw [tn2] at h2
  rw [faultS, if_neg (by rw [h]; decide), if_pos h0, if_neg (by rw [h2, Bool.and_false]; decide)]
theorem fault_f {us : List Int} {k : Nat} (h : isLow (us.getD k 0) = false) (h0 : isHigh (us.getD k 0) = true) (h1 : ¬ (k : Int) + 1 < (us.length : Int)) : "high" = faultS us k := by
  rw [faultS, if_neg (by rw [h]; decide), if_pos h0, if_neg (by rw [Bool.and_eq_true, decide_eq_true_eq]; exact fun x => h1 (Int.ofNat_lt.mpr x.1))]
theorem fault_g {us : List Int} {k : Nat} (h : isLow (us.getD k 0) = false) (h0 : isHigh (us.getD k 0) = false) : "" = faultS us k := by
  rw [faultS, if_neg (by rw [h]; decide), if_neg (by rw [h0]; decide)]
theorem con_fault (w : World) (news : Led) (U : Addr) (vs : List Value) (us : List Int) (n : Nat) (at_ : Nat) (t : Tok) (hU : (U, listOf vs.toArray n) ∈ news) (hi : IntsAre vs us) (hlen : us.length ≤ 100) (h1 : at_ < us.length) :
    Con w 122 [.ref U, .int at_ t] 8 100 news (fun k => ∀ t, k (.str (Str.ofString (faultS us at_)) t) news) := by
  k_with_none
  k_with_none
  refine' Con.enter [(Str.ofString "units", .ref U), (Str.ofString "at", .int at_ t)] [(Str.ofString "at", .int at_ t), (Str.ofString "units", .ref U)] 7 97 rfl ?k6 ?k7 ?kd ?ku ?k9 ?kB ?_ ?c2 ?c3 ?c4 ?c5
  case k6 => k_is
  case k7 => k_is
  case kd => decide
  case ku => decide
  case k9 => intro s9 X9; first | exact BindsTo.of_eq rfl | exact binds_K (by k_in) rfl (by k_is) rfl rfl rfl
  case c5 => decide
  case kB => exact locs rfl
  case c2 => exact rfl
  case c3 => exact rfl
  case c4 => exact rfl
  intro loose mean mg mb dp un gd outer A₀ base g' h' L' q0 gg dd oo tk0 k0 B' X' T' hdp hun F' N' hret lv
  refine nameAE ?_
  intro Av Ev
  k_with "call ref" => (k_here; k_dflt (refine' Con.use ?kC ?k1 ?k2 ?k3 ?k4 ?k5 ?kK ?kd ?ku ?_; (case k2 => k_asm); (case k4 => k_asm); (case kC => exact con_is_low _ _ _ _); (case k1 => k_asm); (case k3 => k_asm); (case k5 => k_asm); (case kK => first | exact rfl | assumption); (case kd => ktr_room); (case ku => ktr_units); intro h9 tk9 F9 N9; (try dsimp only); (try k_fold)))
  k_with "call ref" => (k_here; k_dflt (refine' Con.use ?kC ?k1 ?k2 ?k3 ?k4 ?k5 ?kK ?kd ?ku ?_; (case k2 => k_asm); (case k4 => k_asm); (case kC => exact con_is_high _ _ _ _); (case k1 => k_asm); (case k3 => k_asm); (case k5 => k_asm); (case kK => first | exact rfl | assumption); (case kd => ktr_room); (case ku => ktr_units); intro h9 tk9 F9 N9; (try dsimp only); (try k_fold)))
  k_steps
  all_goals (refine retS lv hret ?_ (by k_asm) (by k_asm); refine congrArg Str.ofString ?_; first | exact fault_a (by assumption) (by assumption) (by assumption) | exact fault_b (by assumption) (by assumption) | exact fault_c (by assumption) (by assumption) | exact fault_d (by assumption) (by assumption) (by assumption) (by assumption) | exact fault_e (by assumption) (by assumption) (by assumption) | exact fault_f (by assumption) (by assumption) (by assumption) | exact fault_g (by assumption) (by assumption))
-- P3
example : True := by w_top off; k_with_none; trivial
theorem ce_back {h₀ h : Heap} {L : Addr} {d c : Addr × Obj} {n own : Led} (N : News h₀ L h (d :: c :: (n ++ own))) : News h₀ L h (n ++ d :: c :: own) := fun p hp => N p (by
  simp only [List.mem_append, List.mem_cons] at hp ⊢
  rcases hp with hp | hp | hp | hp
  · exact .inr (.inr (.inl hp))
  · exact .inl hp
  · exact .inr (.inl hp)
  · exact .inr (.inr (.inr hp)))
theorem ints_snoc {vs : List Value} {ns : List Int} (h : IntsAre vs ns) (k : Int) (t : Tok) : IntsAre (vs ++ [.int k t]) (ns ++ [k]) := by
  induction h with
  | nil => exact .cons _ _ .nil
  | cons a b _ ih => exact .cons _ _ ih
theorem ints_item {vs : List Value} {ns : List Int} (h : IntsAre vs ns) {i : Nat} {v : Value} (e : vs[i]? = some v) : i < ns.length ∧ ∃ t, v = .int (ns.getD i 0) t := by
  induction h generalizing i with
  | nil => cases e
  | cons a b _ ih =>
    cases i with
    | zero => obtain rfl := Option.some.inj e; exact ⟨Nat.zero_lt_succ _, _, rfl⟩
    | succ i => obtain ⟨h1, h2⟩ := ih (i := i) (by simpa using e); exact ⟨Nat.succ_lt_succ h1, by simpa using h2⟩
theorem range_map_snoc {α : Type} (f : Nat → α) (i : Nat) : (List.range (i + 1)).map f = (List.range i).map f ++ [f i] := by rw [List.range_succ, List.map_append]; rfl
theorem fault_cases (us : List Int) (k : Nat) : faultS us k = "" ∨ faultS us k = "low" ∨ faultS us k = "high" := by
  unfold faultS
  (repeat' split) <;> simp
theorem fault_beq (us : List Int) (k : Nat) : (Str.ofString (faultS us k) == Str.ofString "") = decide (faultS us k = "") := by
  rcases fault_cases us k with h | h | h <;> rw [h] <;> decide
theorem drop_one {h₀ h : Heap} {L : Addr} {d c : Addr × Obj} {n : Led} (N : News h₀ L h (d :: c :: n)) : News h₀ L h (d :: n) := fun p hp => N p (by
  rcases List.mem_cons.mp hp with rfl | hp
  · exact .head _
  · exact .tail _ (.tail _ hp))
noncomputable def mendedL (us : List Int) : List Int := (List.range us.length).map fun i => if faultS us i = "" then us.getD i 0 else 65533
theorem con_mended (w : World) (news : Led) (U : Addr) (vs : List Value) (us : List Int) (n : Nat) (hU : (U, listOf vs.toArray n) ∈ news) (hi : IntsAre vs us) (hlen : us.length ≤ 100) :
    Con w 134 [.ref U] 20 200 news (fun k => ∀ l vs' n', IntsAre vs' (mendedL us) → (∀ p ∈ news, p.1 ≠ l) → k (.ref l) ((l, listOf vs'.toArray n') :: news)) := by
  k_with_none
  k_with "call ref" => (k_here; k_dflt (refine' Con.use ?z1kC ?z1k1 ?z1k2 ?z1k3 ?z1k4 ?z1k5 ?z1kK ?z1kd ?z1ku ?_; (case z1k2 => k_asm); (case z1k4 => k_asm); (case z1kC => first | (refine' con_fault _ _ _ _ _ _ _ _ ?z1b1 ?z1b2 ?z1b3 ?z1b4; (case z1b1 => k_mem); (case z1b2 => assumption); (case z1b3 => omega); (case z1b4 => omega))); (case z1k1 => k_asm); (case z1k3 => k_asm); (case z1k5 => k_asm); (case z1kK => first | exact rfl | assumption); (case z1kd => ktr_room); (case z1ku => ktr_units); intro _ _ _ _ _; (try dsimp only); (try k_fold)))
  k_with_none
  k_with "call ref" => (k_here; k_dflt (refine' Con.use ?z1kC ?z1k1 ?z1k2 ?z1k3 ?z1k4 ?z1k5 ?z1kK ?z1kd ?z1ku ?_; (case z1k2 => k_asm); (case z1k4 => k_asm); (case z1kC => first | (refine' con_fault _ _ _ _ _ _ _ _ ?z1b1 ?z1b2 ?z1b3 ?z1b4; (case z1b1 => k_mem); (case z1b2 => assumption); (case z1b3 => omega); (case z1b4 => omega))); (case z1k1 => k_asm); (case z1k3 => k_asm); (case z1k5 => k_asm); (case z1kK => first | exact rfl | assumption); (case z1kd => ktr_room); (case z1ku => ktr_units); intro _ _ _ _ _; (try dsimp only); (try k_fold)))
  refine' Con.enterC [(Str.ofString "units", .ref U)] 19 197 ?k6 ?k7 ?kd ?ku ?k9 ?kB ?kD ?_ ?c2 ?c3 ?c4
  case k6 => k_is
  case k7 => k_is
  case kd => decide
  case ku => decide
  case k9 => intro s9 X9; first | exact BindsTo.of_eq rfl | exact binds_K (by k_in) rfl (by k_is) rfl rfl rfl
  case kB => exact rfl
  case kD => decide +kernel
  case c2 => exact rfl
  case c3 => exact rfl
  case c4 => exact rfl
  intro loose mean mg mb dp un gd outer A₀ base g' h' L' q0 gg dd oo tk0 cells' k0 B' X' T' hdp hun F' N' Y' l1 hret lv
  refine nameAE ?_
  intro Av Ev
  obtain ⟨oc1, hE, dc1⟩ := CellsAre.one Y'
  subst hE
  clear Y'
  replace dc1 : oc1.data = .cell (some (.ref U)) := dc1
  simp only [List.cons_append, List.nil_append] at N'
  replace F' : Fr g' L' h' (fun _ => none) := F'
  (try dsimp only)
  (try k_fold)
  have hvl : vs.length = us.length := IntsAre.length hi
  k_with "eval ListComp" => (k_dflt (refine ListComp_J (by k_asm) (by with_unfolding_all rfl) (by decide) (by rfl) (by decide) ?_))
  k_steps
  k_dflt (refine comp_enum (by rfl) (by k_asm) (by k_asm) (by k_mem) (by rw [hvl, sizeLine_eq]; omega) (by rfl) (by rfl) (by rfl) (by decide) (fun i ys n₁ => n₁ = (L' + 1, oc1) :: news ∧ IntsAre ys ((List.range i).map fun i => if faultS us i = "" then us.getD i 0 else 65533)) ⟨rfl, .nil⟩ ?turn ?fin)
  case turn =>
    intro g9 i ys n₁ own C D oC m₂ h9 tk9 E9 hi9 hz hJ hoff hw hown hoC F9 N9
    obtain ⟨x, y, ⟨t, rfl, hy⟩, hxa, hxb⟩ := hz
    obtain ⟨rfl, hys⟩ := hJ
    obtain ⟨hlt, tv, rfl⟩ := ints_item hi hy
    obtain ⟨rest, hrest⟩ : ∃ r, r = news ++ own := ⟨_, rfl⟩
    simp only [List.cons_append] at N9
    rw [← hrest] at N9
    have hU9 : (U, listOf vs.toArray n) ∈ rest := hrest ▸ List.mem_append_left _ hU
    refine tests_ce ?_
    intro qc hqc
    (try dsimp only)
    k_steps
    all_goals subst hrest
    all_goals (refine CE.go hqc (n' := (L' + 1, oc1) :: news) (by k_asm) (ce_back (by k_asm)) hoff ⟨rfl, ?_⟩; rw [range_map_snoc])
    all_goals (rename (Str.ofString _ == Str.ofString "") = _ => hf9; rw [fault_beq] at hf9; simp only [decide_eq_true_eq, decide_eq_false_iff_not] at hf9)
    · rw [if_pos hf9]; exact ints_snoc hys _ _
    · rw [if_neg hf9]; exact ints_snoc hys _ _
  case fin =>
    rintro g9 tk9 ys n₁ ⟨rfl, hys⟩ D h9 tk9 F9 N9 hD
    k_steps
    rw [hvl] at hys
    exact lv.go (hret D ys _ hys (fun p hp => hD p (.tail _ hp))) (by k_asm) (drop_one (by k_asm))
-- PB
theorem band_1023 {x : Int} (hx : 0 ≤ x) : Builtin.bitAnd x 1023 = x % 1024 := by
  rw [bitAnd_pp hx (by decide)]
  have h : x.toNat &&& (1023 : Int).toNat = x.toNat % 1024 := Nat.and_two_pow_sub_one_eq_mod x.toNat 10
  rw [h]
  exact (Int.natCast_emod x.toNat 1024).trans (congrArg (· % 1024) (Int.toNat_of_nonneg hx))
theorem fdiv_pow {x : Int} (hx : 0 ≤ x) (k : Nat) : x.fdiv (2 ^ k) = x / 2 ^ k := Int.fdiv_eq_ediv_of_nonneg _ (Int.le_of_lt (Int.pow_pos (by decide)))
theorem bor_add {a b : Int} {k : Nat} (ha : 0 ≤ a) (hb : 0 ≤ b) (hk : b < 2 ^ k) : Builtin.bitOr (a * 2 ^ k) b = a * 2 ^ k + b := by
  have hp : (0 : Int) < 2 ^ k := Int.pow_pos (by decide)
  rw [bitOr_and, bitAnd_pp (Int.mul_nonneg ha (Int.le_of_lt hp)) hb]
  have h : (a * 2 ^ k).toNat &&& b.toNat = 0 := by
    obtain ⟨x, rfl⟩ := Int.eq_ofNat_of_zero_le ha
    obtain ⟨y, rfl⟩ := Int.eq_ofNat_of_zero_le hb
    have hy : y < 2 ^ k := by exact_mod_cast hk
    have e : ((x : Int) * 2 ^ k).toNat = x * 2 ^ k := by
      have : ((x : Int) * 2 ^ k) = ((x * 2 ^ k : Nat) : Int) := by push_cast; rfl
      rw [this]; exact Int.toNat_natCast _
    rw [e, Int.toNat_natCast]
    apply Nat.eq_of_testBit_eq
    intro i
    rw [Nat.testBit_and, Nat.zero_testBit, Nat.testBit_mul_two_pow]
    by_cases hi : k ≤ i
    · have : y.testBit i = false := Nat.testBit_lt_two_pow (Nat.lt_of_lt_of_le hy (Nat.pow_le_pow_right (by decide) hi))
      rw [this, Bool.and_false]
    · simp [hi]
  rw [h]; simp
theorem all_cons {a : Addr × Obj} {r : Led} {d : Addr} (h1 : a.1 ≠ d) (h2 : ∀ p ∈ r, p.1 ≠ d) : ∀ p ∈ a :: r, p.1 ≠ d := fun p hp => by
  rcases List.mem_cons.mp hp with rfl | hp
  · exact h1
  · exact h2 p hp
theorem all_lt {r : Led} {l d : Addr} (h : ∀ p ∈ r, p.1 < l) (hl : @LE.le Nat instLENat l d) : ∀ p ∈ r, p.1 ≠ d := fun p hp => Nat.ne_of_lt (Nat.lt_of_lt_of_le (h p hp) hl)
theorem sub_left {h₀ h : Heap} {L : Addr} {a b : Led} (N : News h₀ L h (a ++ b)) : News h₀ L h a := fun p hp => N p (List.mem_append_left _ hp)
theorem news_sub {h₀ h : Heap} {L : Addr} {a b : Led} (N : News h₀ L h a) (hs : ∀ p ∈ b, p ∈ a) : News h₀ L h b := fun p hp => N p (hs p hp)
theorem fr_eq {g h : Heap} {L : Addr} {m m₂ : Str → Option Value} (F : Fr g L h m) (e : m = m₂) : Fr g L h m₂ := e ▸ F
noncomputable def Kp (xs : List Str) (b m : Str → Option Value) : Prop := ∀ y, y ∉ xs → m y = b y
theorem Kp.refl {xs : List Str} {b : Str → Option Value} : Kp xs b b := fun _ _ => rfl
theorem Kp.setN' {xs : List Str} {b m : Str → Option Value} {x : Str} {v : Value} (h : Kp xs b m) (hx : x ∈ xs) : Kp xs b (setN m x v) := fun y hy => by
  show (if y = x then some v else m y) = b y
  rw [if_neg (show ¬ y = x from fun e => hy (e ▸ hx))]; exact h y hy
theorem Kp.setO' {xs : List Str} {b m : Str → Option Value} {x : Str} {v : Option Value} (h : Kp xs b m) (hx : x ∈ xs) : Kp xs b (setO m x v) := fun y hy => by
  show (if y = x then v else m y) = b y
  rw [if_neg (show ¬ y = x from fun e => hy (e ▸ hx))]; exact h y hy
theorem Kp.shape0 {b m : Str → Option Value} (h : Kp [] b m) : m = b := funext fun y => h y (by simp)
theorem Kp.shape1 {x : Str} {b m : Str → Option Value} (h : Kp [x] b m) : ∃ c, m = setO b x c := ⟨m x, funext fun y => by
  show m y = if y = x then m x else b y
  by_cases e : y = x
  · rw [if_pos e, e]
  · rw [if_neg e]; exact h y (by simp [e])⟩
theorem Kp.more {x : Str} {xs : List Str} {b m : Str → Option Value} (h : Kp (x :: xs) b m) : ∃ c m', Kp xs b m' ∧ m = setO m' x c := by
  classical
  refine ⟨m x, fun y => if y ∈ xs then m y else b y, fun y hy => if_neg hy, funext fun y => ?_⟩
  show m y = if y = x then m x else (if y ∈ xs then m y else b y)
  by_cases e : y = x
  · rw [if_pos e, e]
  · rw [if_neg e]
    by_cases e2 : y ∈ xs
    · simp only [if_pos e2]
    · simp only [if_neg e2]; exact h y (by simp [e, e2])
theorem Kp.shape2 {x1 x2 : Str} {b m : Str → Option Value} (h : Kp [x1, x2] b m) : ∃ c1 c2, m = setO (setO b x2 c2) x1 c1 := by
  obtain ⟨c, m', h', rfl⟩ := h.more
  obtain ⟨c2, rfl⟩ := h'.shape1
  exact ⟨c, c2, rfl⟩
theorem Kp.shape3 {x1 x2 x3 : Str} {b m : Str → Option Value} (h : Kp [x1, x2, x3] b m) : ∃ c1 c2 c3, m = setO (setO (setO b x3 c3) x2 c2) x1 c1 := by
  obtain ⟨c, m', h', rfl⟩ := h.more
  obtain ⟨c2, c3, rfl⟩ := h'.shape2
  exact ⟨c, c2, c3, rfl⟩
theorem Kp.shape4 {x1 x2 x3 x4 : Str} {b m : Str → Option Value} (h : Kp [x1, x2, x3, x4] b m) : ∃ c1 c2 c3 c4, m = setO (setO (setO (setO b x4 c4) x3 c3) x2 c2) x1 c1 := by
  obtain ⟨c, m', h', rfl⟩ := h.more
  obtain ⟨c2, c3, c4, rfl⟩ := h'.shape3
  exact ⟨c, c2, c3, c4, rfl⟩
theorem off_re {wr : List Addr} {a : Addr} {o o' : Obj} {l : Led} (h : Off wr ((a, o) :: l)) : Off wr ((a, o') :: l) := fun p hp => by
  rcases List.mem_cons.mp hp with rfl | hp
  · exact h (a, o) (.head _)
  · exact h p (.tail _ hp)
theorem fd_off {wr fp : List Addr} {Fd : Addr} {o : Obj} {news own : Led} (hlt : ∀ p ∈ news, p.1 < Fd) (hoff : Off wr ((Fd, o) :: news)) (hown : ∀ p ∈ own, p.1 ∈ fp) (hfp : ∀ b ∈ fp, b ∈ wr ∨ ∃ o, (b, o) ∈ news) : ∀ p ∈ news ++ own, p.1 ≠ Fd :=
  off_rest (fun p hp => Nat.ne_of_lt (hlt p hp)) hown fun hm => by
    rcases hfp _ hm with h | ⟨o', h⟩
    · exact hoff _ (.head _) h
    · exact absurd (hlt _ h) (Nat.lt_irrefl _)
theorem fd_list {I U : Addr} {Fd : Addr} {o o' : Obj} {news own : Led} (hlt : ∀ p ∈ news, p.1 < Fd) (hoff : Off [I] ((Fd, o) :: news)) (hown : ∀ p ∈ own, p.1 ∈ [I, U]) (hU : (U, o') ∈ news) : ∀ p ∈ news ++ own, p.1 ≠ Fd :=
  fd_off hlt hoff hown fun b hb => by
    rcases List.mem_cons.mp hb with rfl | hb
    · exact .inl (.head _)
    · rw [List.mem_singleton.mp hb]; exact .inr ⟨_, hU⟩
theorem fd_enum {I I2 U : Addr} {Fd : Addr} {o o' : Obj} {news own : Led} (hlt : ∀ p ∈ news, p.1 < Fd) (hoff : Off [I2, I] ((Fd, o) :: news)) (hown : ∀ p ∈ own, p.1 ∈ [I2, I, U]) (hU : (U, o') ∈ news) : ∀ p ∈ news ++ own, p.1 ≠ Fd :=
  fd_off hlt hoff hown fun b hb => by
    rcases List.mem_cons.mp hb with rfl | hb
    · exact .inl (.head _)
    · rcases List.mem_cons.mp hb with rfl | hb
      · exact .inl (.tail _ (.head _))
      · rw [List.mem_singleton.mp hb]; exact .inr ⟨_, hU⟩
local macro_rules | `(tactic| walk_at "kp") => `(tactic| with_reducible ((repeat (first | refine Kp.setN' ?_ (by decide) | refine Kp.setO' ?_ (by decide))); exact Kp.refl))
local macro_rules | `(tactic| k_all) => `(tactic| first | with_reducible assumption | ((repeat (refine all_cons (by k_ne) ?_)); first | with_reducible assumption | exact all_lt (by with_reducible assumption) (by omega) | (exact fun p hp => Nat.ne_of_lt (tb_ltOf (by with_reducible assumption) p hp)) | exact List.forall_mem_nil _))
-- PL
example : True := by w_top off; k_with_none; trivial
theorem con_joined (w : World) (news : Led) (c1 c2 : Int) (t u : Tok) (h1 : 55296 ≤ c1) (h2 : c1 ≤ 57343) (h3 : 55296 ≤ c2) (h4 : c2 ≤ 57343) :
    Con w 115 [.int c1 t, .int c2 u] 8 100 news (fun k => ∀ t, k (.int (65536 + (c1 - 55296) * 1024 + (c2 - 56320)) t) news) := by
  k_with_none
  k_with_none
  refine' Con.enter [(Str.ofString "high", .int c1 t), (Str.ofString "low", .int c2 u)] [(Str.ofString "low", .int c2 u), (Str.ofString "high", .int c1 t)] 7 97 rfl ?k6 ?k7 ?kd ?ku ?k9 ?kB ?_ ?c2 ?c3 ?c4 ?c5
  case k6 => k_is
  case k7 => k_is
  case kd => decide
  case ku => decide
  case k9 => intro s9 X9; first | exact BindsTo.of_eq rfl | exact binds_K (by k_in) rfl (by k_is) rfl rfl rfl
  case c5 => decide
  case kB => exact locs rfl
  case c2 => exact rfl
  case c3 => exact rfl
  case c4 => exact rfl
  intro loose mean mg mb dp un gd outer A₀ base g' h' L' q0 gg dd oo tk0 k0 B' X' T' hdp hun F' N' hret lv
  refine nameAE ?_
  intro Av Ev
  k_steps
  exact lv.go (hret _) (by k_asm) (by k_asm)
noncomputable def rankI (c : Int) : Int := if 65536 ≤ c then 55296 + c - 65536 else if c < 55296 then c else c + 1048576
theorem con_rank (w : World) (news : Led) (c1 : Int) (t : Tok) :
    Con w 141 [.int c1 t] 8 100 news (fun k => ∀ t, k (.int (rankI c1) t) news) := by
  k_with_none
  k_with_none
  refine' Con.enter [(Str.ofString "code", .int c1 t)] [(Str.ofString "code", .int c1 t)] 7 97 rfl ?k6 ?k7 ?kd ?ku ?k9 ?kB ?_ ?c2 ?c3 ?c4 ?c5
  case k6 => k_is
  case k7 => k_is
  case kd => decide
  case ku => decide
  case k9 => intro s9 X9; first | exact BindsTo.of_eq rfl | exact binds_K (by k_in) rfl (by k_is) rfl rfl rfl
  case c5 => decide
  case kB => exact locs rfl
  case c2 => exact rfl
  case c3 => exact rfl
  case c4 => exact rfl
  intro loose mean mg mb dp un gd outer A₀ base g' h' L' q0 gg dd oo tk0 k0 B' X' T' hdp hun F' N' hret lv
  refine nameAE ?_
  intro Av Ev
  k_steps
  all_goals refine retI lv hret ?_ (by k_asm) (by k_asm)
  · rw [rankI, if_pos (by assumption)]
  · rw [rankI, if_neg (by assumption), if_pos (by assumption)]
  · rw [rankI, if_neg (by assumption), if_neg (by assumption)]
theorem lt_ne {news : Led} {l : Addr} (h : ∀ p ∈ news, p.1 < l) : ∀ p ∈ news, p.1 ≠ l := fun p hp => Nat.ne_of_lt (h p hp)
noncomputable def ordS (b : Bool) : String := if b then "be" else "le"
noncomputable def octL (c : Int) (b : Bool) : List Int := if b then [c / 256, c % 256] else [c % 256, c / 256]
theorem con_octets_be (w : World) (news : Led) (c1 : Int) (t u : Tok) (ha : 0 ≤ c1) (hb : c1 ≤ 65535) :
    Con w 155 [.int c1 t, .str (Str.ofString "be") u] 8 100 news (fun k => ∀ l vs n, IntsAre vs (octL c1 true) → (∀ p ∈ news, p.1 < l) → k (.ref l) ((l, listOf vs.toArray n) :: news)) := by
  k_with_none
  k_with_none
  refine' Con.enter [(Str.ofString "unit", .int c1 t), (Str.ofString "order", .str (Str.ofString "be") u)] [(Str.ofString "order", .str (Str.ofString "be") u), (Str.ofString "unit", .int c1 t)] 7 97 rfl ?k6 ?k7 ?kd ?ku ?k9 ?kB ?_ ?c2 ?c3 ?c4 ?c5
  case k6 => k_is
  case k7 => k_is
  case kd => decide
  case ku => decide
  case k9 => intro s9 X9; first | exact BindsTo.of_eq rfl | exact binds_K (by k_in) rfl (by k_is) rfl rfl rfl
  case c5 => decide
  case kB => exact locs rfl
  case c2 => exact rfl
  case c3 => exact rfl
  case c4 => exact rfl
  intro loose mean mg mb dp un gd outer A₀ base g' h' L' q0 gg dd oo tk0 k0 B' X' T' hdp hun F' N' hret lv
  refine nameAE ?_
  intro Av Ev
  k_steps
  have e1 : c1.fdiv (2 ^ Int.toNat 8) = c1 / 256 := fdiv_pow (by omega) 8
  have e2 : Builtin.bitAnd c1 255 = c1 % 256 := bitAnd_m8 c1
  try simp only [e1, e2] at *
  exact lv.go (hret _ [_, _] _ (.cons _ _ (.cons _ _ .nil)) (by assumption)) (by k_asm) (by k_asm)
theorem con_octets_le (w : World) (news : Led) (c1 : Int) (t u : Tok) (ha : 0 ≤ c1) (hb : c1 ≤ 65535) :
    Con w 155 [.int c1 t, .str (Str.ofString "le") u] 8 100 news (fun k => ∀ l vs n, IntsAre vs (octL c1 false) → (∀ p ∈ news, p.1 < l) → k (.ref l) ((l, listOf vs.toArray n) :: news)) := by
  k_with_none
  k_with_none
  refine' Con.enter [(Str.ofString "unit", .int c1 t), (Str.ofString "order", .str (Str.ofString "le") u)] [(Str.ofString "order", .str (Str.ofString "le") u), (Str.ofString "unit", .int c1 t)] 7 97 rfl ?k6 ?k7 ?kd ?ku ?k9 ?kB ?_ ?c2 ?c3 ?c4 ?c5
  case k6 => k_is
  case k7 => k_is
  case kd => decide
  case ku => decide
  case k9 => intro s9 X9; first | exact BindsTo.of_eq rfl | exact binds_K (by k_in) rfl (by k_is) rfl rfl rfl
  case c5 => decide
  case kB => exact locs rfl
  case c2 => exact rfl
  case c3 => exact rfl
  case c4 => exact rfl
  intro loose mean mg mb dp un gd outer A₀ base g' h' L' q0 gg dd oo tk0 k0 B' X' T' hdp hun F' N' hret lv
  refine nameAE ?_
  intro Av Ev
  k_steps
  have e1 : c1.fdiv (2 ^ Int.toNat 8) = c1 / 256 := fdiv_pow (by omega) 8
  have e2 : Builtin.bitAnd c1 255 = c1 % 256 := bitAnd_m8 c1
  try simp only [e1, e2] at *
  exact lv.go (hret _ [_, _] _ (.cons _ _ (.cons _ _ .nil)) (by assumption)) (by k_asm) (by k_asm)
theorem con_draw0 (w : World) (news : Led) (TP TL : Addr) (pos size : Int) (t u : Tok) (n k : Nat) (vs : List Value) (us : List Int) (hT : ∀ p ∈ news, p.1 ≠ TP) (hTL : (TL, listOf vs.toArray k) ∈ news) (hi : IntsAre vs us) (hlen : us.length ≤ 60) (hp : 0 ≤ pos) (hs : 0 < size) :
    Con w 225 [.ref TP, .int size t] 8 100 ((TP, listOf [Value.ref TL, .int pos u].toArray n) :: news) (fun k => ∀ v t' u' n', 0 ≤ v → v < size → k (.int v t') ((TP, listOf [Value.ref TL, .int (pos + 1) u'].toArray n') :: news)) := by
  k_with_none
  k_with_none
  refine' Con.enter [(Str.ofString "tape", .ref TP), (Str.ofString "size", .int size t)] [(Str.ofString "size", .int size t), (Str.ofString "tape", .ref TP)] 7 97 rfl ?k6 ?k7 ?kd ?ku ?k9 ?kB ?_ ?c2 ?c3 ?c4 ?c5
  case k6 => k_is
  case k7 => k_is
  case kd => decide
  case ku => decide
  case k9 => intro s9 X9; first | exact BindsTo.of_eq rfl | exact binds_K (by k_in) rfl (by k_is) rfl rfl rfl
  case c5 => decide
  case kB => exact locs rfl
  case c2 => exact rfl
  case c3 => exact rfl
  case c4 => exact rfl
  intro loose mean mg mb dp un gd outer A₀ base g' h' L' q0 gg dd oo tk0 k0 B' X' T' hdp hun F' N' hret lv
  refine nameAE ?_
  intro Av Ev
  k_steps
  all_goals (try dsimp only)
  · exact lv.go (hret _ _ _ _ (Int.fmod_nonneg_of_pos _ hs) (Int.fmod_lt_of_pos _ hs)) (by k_asm) (by k_asm)
  · exact lv.go (hret _ _ _ _ (Int.le_refl _) hs) (by k_asm) (by k_asm)
theorem Con.conv {w : World} {f : Addr} {args : List Value} {dd uu : Nat} {n1 n2 : Led} {P1 P2 : Kont} (C : Con w f args dd uu n1 P1) (hs : ∀ p ∈ n1, p ∈ n2)
    (hP : ∀ k : Value → Led → Prop, (∀ r a b, (∀ p ∈ a, p ∈ b) → k r a → k r b) → P2 k → P1 k) : Con w f args dd uu n2 P2 := by
  intro loose mean mg mb dp un gd cn cs a ccd cl outer A₀ base h₀ L m s Q E B F X N T hk hdp hun hret
  refine C loose mean mg mb dp un gd cn cs a ccd cl outer A₀ base h₀ L m s Q E B F X (fun p hp => N p (hs p hp)) T hk hdp hun (hP _ (fun r x y hxy hx h' tk' F' N' => hx h' tk' F' fun p hp => N' p (hxy p hp)) hret)
theorem con_draw (w : World) (news : Led) (f : Obj → Led) (TP TL : Addr) (pos size : Int) (t u : Tok) (n k : Nat) (vs : List Value) (us : List Int) (hU : UpdF TP (listOf [Value.ref TL, .int pos u].toArray n) news f) (hTL : (TL, listOf vs.toArray k) ∈ news) (hne : TL ≠ TP) (hi : IntsAre vs us) (hlen : us.length ≤ 60) (hp : 0 ≤ pos) (hs : 0 < size) :
    Con w 225 [.ref TP, .int size t] 8 100 news (fun k => ∀ v t' u' n', 0 ≤ v → v < size → k (.int v t') (f (listOf [Value.ref TL, .int (pos + 1) u'].toArray n'))) := by
  obtain ⟨pre, post, rfl, hf, h1, h2⟩ := hU.split
  refine Con.conv (con_draw0 w (pre ++ post) TP TL pos size t u n k vs us ?_ ?_ hi hlen hp hs) ?_ ?_
  · intro p hp
    rcases List.mem_append.mp hp with hp | hp
    · exact h1 p hp
    · exact h2 p hp
  · rcases List.mem_append.mp hTL with hp | hp
    · exact List.mem_append_left _ hp
    · rcases List.mem_cons.mp hp with hp | hp
      · exact absurd (congrArg Prod.fst hp) hne
      · exact List.mem_append_right _ hp
  · intro p hp
    simp only [List.mem_cons, List.mem_append] at hp ⊢
    rcases hp with rfl | hp | hp
    · exact .inr (.inl rfl)
    · exact .inl hp
    · exact .inr (.inr hp)
  · intro k hk h v t' u' n' hv1 hv2
    refine hk _ _ _ (fun p hp => ?_) (h v t' u' n' hv1 hv2)
    rw [hf] at hp
    simp only [List.mem_cons, List.mem_append] at hp ⊢
    rcases hp with hp | rfl | hp
    · exact .inr (.inl hp)
    · exact .inl rfl
    · exact .inr (.inr hp)
-- PE
section
variable {prog : Program} {w : World} {A : Around} {E : Value → Shared → Prop} {R : Result → Shared → Prop} {h : Heap} {g : Array GenState} {d : Drawn} {t : Nat} {os : OsState}
variable {nm q : Str} {C N : Addr} {bs bm : List Value} {hdct : Bool} {sn : List Str} {sub : List Value} {ab : Bool} {col : Option Bool} {dd : Option Addr} {k0 k1 k2 k3 k5 : Option Value} {B newId initId : String} {bmB : List Value}
theorem xnew_check (F : ExcBaseFacts B newId initId bmB) (hB : bm.contains (.type B) = true) {rest : List Value} {Q : Unit → Shared → Prop} (hC : h.get? C = some (excClassObj nm q C N bs bm hdct sn sub ab col dd k0 k1 k2 k3 k5 newId))
    (hq : Q () ⟨h, g, d, t, os⟩) : wpAny (model prog w) A (checkBuiltinCall newId ⟨.ref C :: rest, []⟩) Q E ⟨h, g, d, t, os⟩ := by
  have hcont : (Value.ref C :: bm).contains (.type B) = true := by rw [List.contains_cons, hB, Bool.or_true]
  have hstar := F.noStar
  unfold checkBuiltinCall
  repeat (first | rw [F.newKind] | rw [F.newSplit] | rw [F.newRow] | refine wpAny_loadPart_at hC ?_ | (refine wpAny_isSubtype_exc hC ?_; rw [hcont]) | refine wpAny_staticBase_exc hC ?_ | refine wpAny_madeBy_exc hC ?_ | simp only [bne_self_eq_false, Bool.false_eq_true, if_false] | wp_step)
  exact hq
theorem xnew (F : ExcBaseFacts B newId initId bmB) (hB : bm.contains (.type B) = true) (hA : bm.contains (.type "AttributeError") = false) (hN : bm.contains (.type "NameError") = false) {rest : List Value}
    (hC : h.get? C = some (excClassObj nm q C N bs bm hdct sn sub ab col dd k0 k1 k2 k3 k5 newId))
    (hq : R (.ok (.ret (.ref (h.objs.size + 1)))) ⟨(h.push { cls := .type "tuple", data := .seq rest.toArray }).push
      { cls := .ref C, data := .fields #[.ref h.objs.size, .none, .none, .none, .bool false, .none] }, g, d, t, os⟩) (hrest : rest.length ≤ sizeLine) :
    codeAny (model prog w) A (.builtin newId ⟨.ref C :: rest, []⟩) R ⟨h, g, d, t, os⟩ := by
  have hends := F.ends
  have hcB : (Value.ref C :: bm).contains (.type B) = true := by rw [List.contains_cons, hB, Bool.or_true]
  have hcA : (Value.ref C :: bm).contains (.type "AttributeError") = false := by rw [List.contains_cons, hA]; rfl
  have hcN : (Value.ref C :: bm).contains (.type "NameError") = false := by rw [List.contains_cons, hN]; rfl
  refine codeAny_builtinAt F.entry ?_
  unfold Builtin.«BaseException.__new__»
  refine PySem.wpAt_bind ?_
  show PySem.wpAt _ _ _ (stack >>= _) _ _ _
  refine PySem.wpAt_bind (PySem.wpAt_stack fun p below => PySem.wpAt_of_wpAny ?_)
  wp_walk
  refine PySem.wpAt_of_wpAny ?_
  rw [F.owner]
  repeat (first | with_reducible refine wpAny_madeHere_exc F.canon hC ?_ | with_reducible refine wpAny_loadPart_at hC ?_ | (with_reducible refine wpAny_isSubtype_exc hC ?_; first | rw [hcB] | rw [hcA] | rw [hcN]) | wp_step)
  show R _ _
  rw [Heap.size_push]
  exact hq
theorem xtype_call {rest : List Value} {fI : Addr} {oI : Obj} {K : Frag} {Q : Fin → Shared → Prop} (F : ExcBaseFacts B newId initId bmB) (hB : bm.contains (.type B) = true) (hA : bm.contains (.type "AttributeError") = false) (hN : bm.contains (.type "NameError") = false)
    (X : K.In h) (hC : h.get? C = some (excClassObj nm q C N bs bm hdct sn sub ab col dd k0 k1 k2 k3 k5 newId)) (hi : findIn K (.ref C) "__init__" = some (some (.ref fI)))
    (hfI : h.get? fI = some oI) (hfc : oI.cls = .type "function")
    (hq : ∀ h' e, Heap.MadeExcOf h h' e (.ref C) rest →
      wpAny (model prog w) A (call (.ref fI) (.ref e :: rest)) (fun r s' => r = .none ∧ Q (.done (.ret (.ref e))) s') E ⟨h', g, d, t, os⟩) (hrest : rest.length ≤ sizeLine) :
    wpAny (model prog w) A (Builtin.«type.__call__» ⟨.ref C :: rest, []⟩) Q E ⟨h, g, d, t, os⟩ := by
  repeat (first | with_reducible refine wpAny_loadPart_at hC ?_ | with_reducible refine wpAny_madeBy_exc hC ?_ | wp_step)
  refine codeAny_call_builtin_code (Code.quiet_builtin _ F.quiet) (xnew_check F hB hC ?_)
  refine xnew F hB hA hN hC ?_ hrest
  show wpAny _ _ _ _ _ _
  have up : ∀ b o, h.get? b = some o → ((h.push { cls := .type "tuple", data := .seq rest.toArray }).push { cls := .ref C, data := .fields #[.ref h.objs.size, .none, .none, .none, .bool false, .none] }).get? b = some o := fun b o e => Heap.get?_push_of_some _ (Heap.get?_push_of_some _ e)
  have hC₁ := up _ _ hC
  have hfI₁ := up _ _ hfI
  have hget : ((h.push { cls := .type "tuple", data := .seq rest.toArray }).push
      { cls := .ref C, data := .fields #[.ref h.objs.size, .none, .none, .none, .bool false, .none] }).get? (h.objs.size + 1) = some
      { cls := .ref C, data := .fields #[.ref h.objs.size, .none, .none, .none, .bool false, .none] } := by heap_get
  have hcC : (Value.ref C :: bm).contains (.ref C) = true := by simp
  unfold isInstance
  repeat (first | with_reducible refine wpAny_loadPart_at hget ?_ | (with_reducible refine wpAny_isSubtype_exc hC₁ ?_; rw [hcC]) | wp_step)
  show wpAny _ _ (typeLookup (.ref C) _) _ _ _
  refine (looks_findIn (X.keeps up) hi).here ?_
  refine wpAny_holding (wpAny_bind ?_)
  unfold bindSpecial
  refine wpAny_bind (wpAny_typeOf (T := "function") ⟨_, hfI₁, hfc⟩ ?_)
  rw [if_pos (by decide)]
  refine wpAny_pure (wpAny_bind (wpAny_mono (hq _ (h.objs.size + 1) ⟨up, Heap.get?_none_of_le (Nat.le_succ _), h.objs.size, hget, Heap.get?_none_of_le (Nat.le_refl _), ?_⟩) (fun r s' hr => ?_) fun _ _ x => x))
  · exact Heap.get?_push_of_some _ (Heap.get?_push_at rfl rfl)
  · obtain ⟨rfl, hQ⟩ := hr
    wp_walk
    exact hQ
theorem xcall {rest : List Value} {fI : Addr} {oI : Obj} {K : Frag} {Q : Value → Shared → Prop} (F : ExcBaseFacts B newId initId bmB) (hB : bm.contains (.type B) = true) (hA : bm.contains (.type "AttributeError") = false) (hN : bm.contains (.type "NameError") = false)
    (X : K.In h) (hC : h.get? C = some (excClassObj nm q C N bs bm hdct sn sub ab col dd k0 k1 k2 k3 k5 newId)) (hi : findIn K (.ref C) "__init__" = some (some (.ref fI)))
    (hfI : h.get? fI = some oI) (hfc : oI.cls = .type "function")
    (hq : ∀ h' e, Heap.MadeExcOf h h' e (.ref C) rest →
      wpAny (model prog w) (A.under (.builtin "type.__call__" ⟨.ref C :: rest, []⟩)) (call (.ref fI) (.ref e :: rest)) (fun r s' => r = .none ∧ Q (.ref e) s') E ⟨h', g, d, t, os⟩) (hrest : rest.length ≤ sizeLine) :
    wpAny (model prog w) A (call (.ref C) rest) Q E ⟨h, g, d, t, os⟩ := by
  have f1 := tc_lookup
  have f2 := tc_bind (.ref C)
  have hT : (⟨h, g, d, t, os⟩ : Shared).TypeIs (.ref C) "type" := ⟨_, hC, rfl⟩
  refine wpAny_call (codeAny_of_tree ?_)
  show wpAny _ _ (callAny (.ref C) _) _ _ _
  repeat (any_goals (first | assumption | with_reducible refine wpAny_loadPart_at hC ?_ | wp_step))
  refine ⟨rfl, ?_⟩
  refine codeAny_call_builtin_at (Code.quiet_builtin _ (by decide +kernel)) entry_typeCall (wpAny_check_type_call_sub hC (xtype_call F hB hA hN X hC hi hfI hfc (fun h' e hm => ?_) hrest))
  exact hq h' e hm
/-- raise of an exception that is made -/
theorem xraise {K : Frag} {s : Shared} {x : Sem Value} {env : Env} {C : Addr} {Q : Flow → Shared → Prop} (hb : mroIn K C (.type "BaseException") = some true) (hm : typeIn K (.ref C) = some (.type "type")) (hh : A.handled = none)
    (h : wpAny (model prog w) A x (fun v s₁ => ∃ e oe vs, v = .ref e ∧ K.In s₁.heap ∧ s₁.heap.get? e = some oe ∧ oe.cls = .ref C ∧ oe.data = .fields vs ∧ vs[1]? = some .none ∧ E (.ref e) s₁) E s) :
    wpAny (model prog w) A (raiseStmt env (some x) none) Q E s := by
  unfold raiseStmt
  refine wpAny_bind (wpAny_mono h (fun v s₁ h₁ => ?_) fun _ _ x => x)
  obtain ⟨e, oe, vs, rfl, X, he, hc, hd, h1, hE⟩ := h₁
  have L0 : Looks (model prog w) s₁.heap (typeOf (.ref e)) (.ref C) := hc ▸ (Looks.ld he).andThen .now
  have L1 := looks_mroIn (M := model prog w) X hb
  have L2 := looks_typeIn (M := model prog w) X hm
  have L3 : Looks (model prog w) s₁.heap (isType (.ref e)) false := by
    refine (Looks.ld he).andThen ?_
    rw [hd]; exact .now
  have L4 : Looks (model prog w) s₁.heap (isExcClass (.ref e)) false := by
    refine L3.andThen ?_
    exact .now
  refine wpAny_bind (wpAny_pure (wpAny_bind (wpAny_holding ?_)))
  unfold excFromValue
  refine wpAny_bind (L4.here ?_)
  simp only [Bool.false_eq_true, if_false]
  unfold isInstance
  refine wpAny_bind (wpAny_bind (L0.here (L1.here ?_)))
  simp only [if_true]
  refine wpAny_pure ?_
  refine wpAny_bind (L3.here ?_)
  simp only [Bool.false_eq_true, if_false]
  have L5 : Looks (model prog w) s₁.heap (raisedInstance (.ref e)) (.ref e) := by
    refine L0.andThen (L2.andThen ?_)
    exact .now
  refine wpAny_bind (L5.here ?_)
  unfold setFlight
  refine wpAny_bind (wpAny_bind (wpAny_field he hd h1 ?_))
  rw [if_neg (by decide)]
  exact wpAny_pure (wpAny_raiseNew_none hh hE)
theorem Raise_x {K : Frag} {s : Shared} {c : Expr} {pos : Pos} {env : Env} {C : Addr} {Q : Flow → Shared → Prop} (hb : mroIn K C (.type "BaseException") = some true) (hm : typeIn K (.ref C) = some (.type "type")) (hh : A.handled = none)
    (h : wpAny (model prog w) A (eval c env) (fun v s₁ => ∃ e oe vs, v = .ref e ∧ K.In s₁.heap ∧ s₁.heap.get? e = some oe ∧ oe.cls = .ref C ∧ oe.data = .fields vs ∧ vs[1]? = some .none ∧ E (.ref e) s₁) E s) :
    wpAny (model prog w) A (exec (.Raise (some c) none pos) env) Q E s := by
  show wpAny _ A (do standAt pos; raiseStmt env (some (do let v ← eval c env; standAt pos; pure v)) none) Q E s
  exact wpAny_bind (wpAny_standAt (xraise hb hm hh (wpAny_bind (wpAny_mono h (fun v s₁ h₁ => wpAny_bind (wpAny_standAt (wpAny_pure h₁))) fun _ _ x => x))))
end
-- PF
section
open Builtin Builtin.ObjectAttr
section
variable {prog : Program} {w : World} {A : Around} {E : Value → Shared → Prop} {s : Shared} {K : Frag} {C e : Addr} {cd : ClassData} {name : Str} {v : Value} {vs : Array Value} {sl : Array (Option Value)}
theorem xpass (self : Value) : refuseLoop self "__setattr__" [.type "Exception", .type "BaseException", .type "object"] = pure () := by kernel_rfl
theorem xset {R : Result → Shared → Prop} {tk : Tok} (X : K.In s.heap) (he : s.heap.get? e = some ⟨.ref C, none, .fields vs, sl⟩) (hc : clsIn K C = some cd) (hh : cd.hasDict = true) (hne : cd.mro.isEmpty = false) (ho : cd.mro.contains (.type "object") = true) (hp : refuseLoop (.ref e) "__setattr__" cd.mro = pure ())
    (ht : takerIn K C name = some none)
    (h : ∀ h' tk', (∀ b o, b ≠ e → s.heap.get? b = some o → h'.get? b = some o) → h'.get? e = some ⟨.ref C, some s.heap.objs.size, .fields vs, sl⟩ → h'.get? s.heap.objs.size = some (dictOf [⟨PyData.keyHash w.params name, .str name tk', v⟩] 1) → R (.ok (.ret .none)) { s with heap := h', toks := s.toks + 1 }) :
    codeAny (model prog w) A (.call (.builtin "object.__setattr__") ⟨[.ref e, .str name tk, v], []⟩) R s := by
  have SF := PySem.F.store_object
  have L0 : Looks (model prog w) s.heap (typeOf (.ref e)) (.ref C) := (Looks.ld he).andThen .now
  have sub : Looks (model prog w) s.heap (isInstance (.ref e) (.type "object")) true := L0.andThen (looks_mroIn X (by unfold mroIn; rw [hc, Option.bind_some, if_neg (by rw [hne]; decide), ho]))
  refine codeAny_call_builtin SF.slot.plain SF.entry (@check_slot (model prog w) _ _ s "object.__setattr__" "object" "__setattr__" (.ref e) [.str name tk, v] [] _ SF.kind SF.split sub (SF.args (.ref e) (.str name tk) v) ?_)
  obtain ⟨attr, ha, hr⟩ := Option.bind_eq_some_iff.mp ht
  have hm : Looks (model prog w) s.heap (mroOf (.ref C)) cd.mro := (looks_clsIn X hc).andThen .now
  have L3 : Looks (model prog w) s.heap (storeTaker? attr) none := by
    cases attr with
    | none => exact .now
    | some a =>
      obtain ⟨b, hb, hb2⟩ := Option.map_eq_some_iff.mp hr
      refine (looks_takesIn X hb).andThen ?_
      cases b <;> first | exact .now | cases hb2
  rw [osa_eq, refuse_eq]
  refine wpAny_bind (wpAny_bind (L0.here (wpAny_bind (hm.here ?_))))
  rw [hp]
  refine wpAny_pure (wpAny_bind (L0.here (wpAny_bind ((looks_findIn X ha).here (wpAny_bind (L3.here ?_))))))
  refine wpAny_bind (wpAny_pure (wpAny_bind (wpAny_bind (wpAny_loadPart he (wpAny_bind ((looks_clsIn X hc).here ?_))))))
  rw [hh]
  show wpAny _ _ (do let d ← alloc { cls := Value.type "dict", data := Data.dict #[] }; update e (fun o => { o with dict := some d }); dictMade (.ref C) e d) _ _ s
  have hlt : e < s.heap.objs.size := Heap.lt_size he
  have hne' : s.heap.objs.size ≠ e := Nat.ne_of_gt hlt
  refine wpAny_bind (wpAny_alloc ?_)
  have he₁ := Heap.get?_push_of_some { cls := Value.type "dict", data := Data.dict #[] } he
  have hD₁ : (s.heap.push { cls := Value.type "dict", data := Data.dict #[] }).get? s.heap.objs.size = some _ := Heap.get?_push_size _ rfl
  refine wpAny_bind (wpAny_update he₁ ?_)
  have he₂ := Heap.get?_update_self (fun o : Obj => { o with dict := some s.heap.objs.size }) he₁ rfl
  have hD₂ := (Heap.get?_update_other (s.heap.push { cls := Value.type "dict", data := Data.dict #[] }) (fun o : Obj => { o with dict := some s.heap.objs.size }) (Ne.symm hne')).trans hD₁
  refine wpAny_bind (wpAny_pure (wpAny_pure ?_))
  refine wpAny_bind (wpAny_pure (wpAny_bind ?_))
  unfold nsSet
  refine wpAny_bind (wpAny_bind (wpAny_askSetting (wpAny_pure (wpAny_bind (wpAny_mkText (wpAny_bind (wpAny_loadPart hD₂ ?_)))))))
  (try dsimp only)
  rw [show aRefKeyMayBeTheName name (#[] : Array DictEntry) = false from by rw [aRefKeyMayBeTheName_at]; simp]
  simp only [Bool.false_eq_true, if_false]
  refine wpAny_updatePart hD₂ ?_
  have hput : ∀ tk', Obj.putName name (PyData.keyHash w.params name) (.str name tk') v { cls := Value.type "dict", data := Data.dict #[] } = dictOf [⟨PyData.keyHash w.params name, .str name tk', v⟩] 1 := fun tk' => by
    have := putName_dict name (PyData.keyHash w.params name) (.str name tk') v [] 0
    exact this
  have hD₃ := Heap.get?_update_self (Obj.putName name (PyData.keyHash w.params name) (.str name s.toks) v) hD₂ (by rw [hput]; rfl)
  rw [hput] at hD₃
  refine wpAny_bind (wpAny_lookBehind hD₃ (pastItsLine_dict (by rw [sizeLine_eq]; exact Nat.le_of_ble_eq_true rfl)) ?_)
  refine wpAny_pure (h _ s.toks (fun b o hb e' => ?_) ?_ hD₃)
  · have hbD : s.heap.objs.size ≠ b := Nat.ne_of_gt (Heap.lt_size e')
    exact (Heap.get?_update_other _ _ hbD).trans ((Heap.get?_update_other _ _ (Ne.symm hb)).trans (Heap.get?_push_of_some _ e'))
  · exact (Heap.get?_update_other _ _ hne').trans he₂
/-- a name of an exception's own dict -/
theorem xget_code {dx : Addr} {od : Obj} {tk : Tok} {R : Result → Shared → Prop} (X : K.In s.heap) (he : s.heap.get? e = some ⟨.ref C, some dx, .fields vs, sl⟩) (hd : s.heap.get? dx = some od) (hb : mroIn K C (.type "BaseException") = some true)
    (hf : findObj K C (some od) name = some (.value v)) (h : R (.ok (.ret v)) s) :
    codeAny (model prog w) A (.call (.builtin "BaseException.__getattribute__") ⟨[.ref e, .str name tk], []⟩) R s := by
  have FB := PySem.F.attr_Exception
  have I : PySem.W.InstAt s.heap e ⟨.ref C, some dx, .fields vs, sl⟩ C (some od) := ⟨he, rfl, rfl, hd⟩
  obtain ⟨hh, g, d, t, os⟩ := s
  have L0 := I.type (M := model prog w)
  have L1 := looks_find (M := model prog w) X I hf
  have L2 := looks_mroIn (M := model prog w) X hb
  have sub : Looks (model prog w) hh (isInstance (.ref e) (.type "BaseException")) true := L0.andThen L2
  have hk : builtinKind "BaseException.__getattribute__" = some .slot := by decide +kernel
  have hsplit : splitId "BaseException.__getattribute__" = some ("BaseException", "__getattribute__") := by decide +kernel
  have ha := PySem.F.args_bexc_ga (.ref e) (.str name tk)
  refine codeAny_call_builtin FB.ga.plain PySem.F.entry_bexc_ga (@check_slot (model prog w) _ _ ⟨hh, g, d, t, os⟩ "BaseException.__getattribute__" "BaseException" "__getattribute__" (.ref e) [.str name tk] [] _ hk hsplit sub ha ?_)
  refine wpAny_bind (wpAny_pure (wpAny_bind (wpAny_pure (wpAny_bind (L0.at (wpAny_bind (L1.at ?_)))))))
  exact wpAny_pure h
theorem xget {dx : Addr} {od : Obj} {expr : Bool} {Q : Value → Shared → Prop} (X : K.In s.heap) (he : s.heap.get? e = some ⟨.ref C, some dx, .fields vs, sl⟩) (hd : s.heap.get? dx = some od) (hb : mroIn K C (.type "BaseException") = some true)
    (hga : findIn K (.ref C) "__getattribute__" = some (some (.builtin "BaseException.__getattribute__"))) (hgt : findIn K (.ref C) "__getattr__" = some none) (hf : findObj K C (some od) name = some (.value v)) (hv : handedIn v = true) (h : Q v { s with toks := s.toks + 1 }) :
    wpAny (model prog w) A (getAttr (.ref e) name expr) Q E s := by
  have FB := PySem.F.attr_Exception
  have f3 := FB.ga.bind (.ref e)
  have hx0 : (expr && onTheHeap (Value.builtin "BaseException.__getattribute__")) = false := by cases expr <;> rfl
  have hx2 : (Value.builtin "BaseException.__getattribute__" == Value.builtin "object.__getattribute__") = false := by decide +kernel
  have hx1 : (onTheHeap (Value.ref C) && Value.builtin "BaseException.__getattribute__" == Value.builtin "object.__getattribute__") = false := by rw [hx2]; rfl
  unfold getAttr getAttrBy
  refine wpAny_bind (wpAny_mkText (wpAny_holding ?_))
  have code := fun (R : Result → Shared → Prop) h => xget_code (prog := prog) (w := w) (A := A) (s := { s with toks := s.toks + 1 }) (tk := s.toks) (R := R) X he hd hb hf h
  obtain ⟨hh, g, d, t, os⟩ := s
  have I : PySem.W.InstAt hh e ⟨.ref C, some dx, .fields vs, sl⟩ C (some od) := ⟨he, rfl, rfl, hd⟩
  have L0 := I.type (M := model prog w)
  have L1 := looks_findIn (M := model prog w) X hga
  have L2 := looks_findIn (M := model prog w) X hgt
  refine wpAny_bind (L0.at (wpAny_bind (L1.at ?_)))
  (try dsimp only)
  rw [hx1]
  simp only [Bool.false_eq_true, if_false]
  unfold getAttrByItsOwn hookBefore
  rw [if_pos (show onTheHeap (.ref C) = true from rfl)]
  refine wpAny_bind (L2.at (wpAny_bind (wpAny_attempt (wpAny_holding ?_))))
  unfold callGetattribute
  rw [hx0]
  simp only [Bool.false_eq_true, if_false]
  unfold boundAndCalled
  rw [f3]
  refine wpAny_bind (wpAny_pure (wpAny_call (code _ ?_)))
  show wpAny _ _ (handedOut v) _ _ _
  rw [handedOut_of hv]
  exact wpAny_pure h
end
end
-- PG
example : True := by w_top off; k_with_none; trivial
section
open Builtin Builtin.ObjectAttr
theorem under_make {dp un : Nat} {gd : Option (List Code)} {cn : Str} {cs : Scope} {L a : Addr} {ccd : Value} {cl : List (Str × Addr)} {outer : List Env} {C : Addr} {pos : List Value} :
    (ktrTop dp un gd cn cs L a ccd cl outer).under (.builtin "type.__call__" ⟨.ref C :: pos, []⟩) = ktrTop (dp + 1) (un + 1) gd cn cs L a ccd cl outer := by
  cases gd <;> rfl
abbrev toldDict (w : World) (v : Value) (tk : Tok) : Obj := dictOf [⟨PyData.keyHash w.params (Str.ofString "told"), .str (Str.ofString "told") tk, v⟩] 1
abbrev excObj (C t : Addr) (dx : Option Addr) : Obj := ⟨.ref C, dx, .fields #[.ref t, .none, .none, .none, .bool false, .none], #[]⟩
section
variable {prog : Program} {w : World} {A : Around} {E : Value → Shared → Prop} {s : Shared} {K : Frag} {C e t : Addr} {cd : ClassData} {v : Value} {h₀ : Heap} {L : Addr} {m : Str → Option Value} {news : Led}
theorem setA_x {Q : Unit → Shared → Prop} (F : Fr h₀ L s.heap m) (X₀ : K.In h₀) (N : News h₀ L s.heap ((e, excObj C t none) :: news)) (hoff : ∀ p ∈ news, p.1 ≠ e)
    (hs : findIn K (.ref C) "__setattr__" = some (some (.builtin "object.__setattr__"))) (hc : clsIn K C = some cd) (hh : cd.hasDict = true) (hne : cd.mro.isEmpty = false) (ho : cd.mro.contains (.type "object") = true) (hp : refuseLoop (.ref e) "__setattr__" cd.mro = pure ())
    (ht : takerIn K C (Str.ofString "told") = some none)
    (h : ∀ dx h' tk tk', Fr h₀ L h' m → News h₀ L h' ((dx, toldDict w v tk) :: (e, excObj C t (some dx)) :: news) → Q () { s with heap := h', toks := tk' }) :
    wpAny (model prog w) A (setAttr (.ref e) (Str.ofString "told") v) Q E s := by
  have X := X₀.keeps F.keep
  have he := (N _ (.head _)).1
  have I : PySem.W.InstAt s.heap e (excObj C t none) C none := ⟨he, rfl, rfl, trivial⟩
  refine set_plain X I hs (xset (s := { s with toks := s.toks + 1 }) X he hc hh hne ho hp ht fun h' tk' hk he' hd' => ?_)
  have eL := (N _ (.head _)).2.1
  have e0 := (N _ (.head _)).2.2
  refine h s.heap.objs.size h' tk' _ ⟨F.ns.at' fun o q => hk _ o (Ne.symm eL) q, fun b o q => hk b o (fun z => by rw [z, e0] at q; cases q) (F.keep b o q), F.above⟩ fun p hp => ?_
  rcases List.mem_cons.mp hp with rfl | hp
  · exact ⟨hd', Nat.ne_of_gt F.ns.lt, ktu_new F (Nat.le_refl _)⟩
  · rcases List.mem_cons.mp hp with rfl | hp
    · exact ⟨he', eL, e0⟩
    · exact ⟨hk _ _ (hoff p hp) (N p (.tail _ hp)).1, (N p (.tail _ hp)).2⟩
end
theorem con_init57 (w : World) (news : Led) (e t : Addr) (v : Value) (hoff : ∀ p ∈ news, p.1 ≠ e) :
    Con w 29 [.ref e, v] 3 50 ((e, excObj 57 t none) :: news) (fun k => ∀ dx tk, k .none ((dx, toldDict w v tk) :: (e, excObj 57 t (some dx)) :: news)) := by
  k_with_none
  k_with "setAttr ref" => (k_here; k_dflt (refine' setA_x ?z2F ?z2X ?z2N ?z2o ?z2s ?z2c ?z2h ?z2n ?z2j ?z2p ?z2t ?_; (case z2F => k_asm); (case z2X => k_asm); (case z2N => k_asm); (case z2o => assumption); (case z2s => k_is); (case z2c => k_is); (case z2h => rfl); (case z2n => rfl); (case z2j => decide); (case z2p => (rw [refuseLoop_ref, refuseLoop_ref]; exact xpass _)); (case z2t => k_is); intro _ _ _ _ _ _))
  k_with_none
  k_with "setAttr ref" => (k_here; k_dflt (refine' setA_x ?z2F ?z2X ?z2N ?z2o ?z2s ?z2c ?z2h ?z2n ?z2j ?z2p ?z2t ?_; (case z2F => k_asm); (case z2X => k_asm); (case z2N => k_asm); (case z2o => assumption); (case z2s => k_is); (case z2c => k_is); (case z2h => rfl); (case z2n => rfl); (case z2j => decide); (case z2p => (rw [refuseLoop_ref, refuseLoop_ref]; exact xpass _)); (case z2t => k_is); intro _ _ _ _ _ _))
  refine' Con.enter [(Str.ofString "self", .ref e), (Str.ofString "told", v)] [(Str.ofString "told", v), (Str.ofString "self", .ref e)] 2 47 rfl ?k6 ?k7 ?kd ?ku ?k9 ?kB ?_ ?c2 ?c3 ?c4 ?c5
  case k6 => k_is
  case k7 => k_is
  case kd => decide
  case ku => decide
  case k9 => intro s9 X9; first | exact BindsTo.of_eq rfl | exact binds_K (by k_in) rfl (by k_is) rfl rfl rfl
  case c5 => decide
  case kB => exact locs rfl
  case c2 => exact rfl
  case c3 => exact rfl
  case c4 => exact rfl
  intro loose mean mg mb dp un gd outer A₀ base g' h' L' q0 gg dd oo tk0 k0 B' X' T' hdp hun F' N' hret lv
  refine nameAE ?_
  intro Av Ev
  k_steps
  all_goals exact lv.fin (hret _ _) (by k_asm) (by k_asm)
theorem con_init45 (w : World) (news : Led) (e t : Addr) (v : Value) (hoff : ∀ p ∈ news, p.1 ≠ e) :
    Con w 29 [.ref e, v] 3 50 ((e, excObj 45 t none) :: news) (fun k => ∀ dx tk, k .none ((dx, toldDict w v tk) :: (e, excObj 45 t (some dx)) :: news)) := by
  k_with_none
  k_with "setAttr ref" => (k_here; k_dflt (refine' setA_x ?z2F ?z2X ?z2N ?z2o ?z2s ?z2c ?z2h ?z2n ?z2j ?z2p ?z2t ?_; (case z2F => k_asm); (case z2X => k_asm); (case z2N => k_asm); (case z2o => assumption); (case z2s => k_is); (case z2c => k_is); (case z2h => rfl); (case z2n => rfl); (case z2j => decide); (case z2p => (rw [refuseLoop_ref, refuseLoop_ref]; exact xpass _)); (case z2t => k_is); intro _ _ _ _ _ _))
  k_with_none
  k_with "setAttr ref" => (k_here; k_dflt (refine' setA_x ?z2F ?z2X ?z2N ?z2o ?z2s ?z2c ?z2h ?z2n ?z2j ?z2p ?z2t ?_; (case z2F => k_asm); (case z2X => k_asm); (case z2N => k_asm); (case z2o => assumption); (case z2s => k_is); (case z2c => k_is); (case z2h => rfl); (case z2n => rfl); (case z2j => decide); (case z2p => (rw [refuseLoop_ref, refuseLoop_ref]; exact xpass _)); (case z2t => k_is); intro _ _ _ _ _ _))
  refine' Con.enter [(Str.ofString "self", .ref e), (Str.ofString "told", v)] [(Str.ofString "told", v), (Str.ofString "self", .ref e)] 2 47 rfl ?k6 ?k7 ?kd ?ku ?k9 ?kB ?_ ?c2 ?c3 ?c4 ?c5
  case k6 => k_is
  case k7 => k_is
  case kd => decide
  case ku => decide
  case k9 => intro s9 X9; first | exact BindsTo.of_eq rfl | exact binds_K (by k_in) rfl (by k_is) rfl rfl rfl
  case c5 => decide
  case kB => exact locs rfl
  case c2 => exact rfl
  case c3 => exact rfl
  case c4 => exact rfl
  intro loose mean mg mb dp un gd outer A₀ base g' h' L' q0 gg dd oo tk0 k0 B' X' T' hdp hun F' N' hret lv
  refine nameAE ?_
  intro Av Ev
  k_steps
  all_goals exact lv.fin (hret _ _) (by k_asm) (by k_asm)
/-- BadCode(v) -/
theorem con_make57 (w : World) (news : Led) (v : Value) :
    Con w 57 [v] 5 60 news (fun k => ∀ e t dx tk, (∀ p ∈ news, p.1 ≠ e) → k (.ref e) ((dx, toldDict w v tk) :: (e, excObj 57 t (some dx)) :: (t, ⟨.type "tuple", none, .seq #[v] 0, #[]⟩) :: news)) := by
  unfold Con
  intro loose mean mg mb dp un gd cn cs a ccd cl outer A₀ base h₀ L m s Q E B F X N T hk hdp hun hret
  have X₁ := X.keeps F.keep
  obtain ⟨hh, g, d, tk, os⟩ := s
  refine xcall (K := hdT.heap_1 w.params) (bm := [.ref 32, .type "Exception", .type "BaseException", .type "object"]) PySem.F.excBase_Exception (by decide) (by decide) (by decide) X₁ (X₁ _ _ (by k_dflt k_is)) (by k_dflt k_is) (X₁ _ _ (by k_dflt k_is)) rfl (fun h' e hm => ?_) (by rw [sizeLine_eq]; exact Nat.le_of_ble_eq_true rfl)
  rw [under_make]
  obtain ⟨t, he, htn, ht⟩ := hm.there
  have enew : ∀ p ∈ news, p.1 ≠ e := fun p hp q => by have := (N p hp).1; rw [q, hm.new] at this; cases this
  have tnew : t ≠ e := fun q => by rw [q, he] at ht; cases ht
  have fresh : ∀ b, hh.get? b = none → h₀.get? b = none := fun b hb => by
    cases q : h₀.get? b with
    | none => rfl
    | some o => have := F.keep b o q; rw [hb] at this; cases this
  have Lno : ∀ b, hh.get? b = none → b ≠ L := fun b hb q => by
    obtain ⟨o, es, ep, hL, _⟩ := F.ns
    rw [q] at hb
    have hL' : hh.get? L = some o := hL
    rw [hb] at hL'; cases hL'
  have F₁ : Fr h₀ L h' m := F.keeps hm.keeps
  have N₁ : News h₀ L h' ((e, excObj 57 t none) :: (t, ⟨.type "tuple", none, .seq #[v] 0, #[]⟩) :: news) := fun p hp => by
    rcases List.mem_cons.mp hp with rfl | hp
    · exact ⟨he, Lno _ hm.new, fresh _ hm.new⟩
    · rcases List.mem_cons.mp hp with rfl | hp
      · exact ⟨ht, Lno _ htn, fresh _ htn⟩
      · exact ⟨hm.keeps _ _ (N p hp).1, (N p hp).2⟩
  refine Con.use (h0 := h') (gg := g) (dd9 := d) (tk0 := tk) (oo := os) (con_init57 w ((t, ⟨.type "tuple", none, .seq #[v] 0, #[]⟩) :: news) e t v (fun p hp => by
    rcases List.mem_cons.mp hp with rfl | hp
    · exact tnew
    · exact enew p hp)) B F₁ X N₁ T hk (by simp only [recursionLimit] at *; omega) (by have := cLine_is; omega) ?_
  intro dx tk2 h2 tk3 F2 N2
  exact ⟨rfl, hret e t dx tk2 enew _ _ F2 N2⟩
/-- BadEncoding(v) -/
theorem con_make45 (w : World) (news : Led) (v : Value) :
    Con w 45 [v] 5 60 news (fun k => ∀ e t dx tk, (∀ p ∈ news, p.1 ≠ e) → k (.ref e) ((dx, toldDict w v tk) :: (e, excObj 45 t (some dx)) :: (t, ⟨.type "tuple", none, .seq #[v] 0, #[]⟩) :: news)) := by
  unfold Con
  intro loose mean mg mb dp un gd cn cs a ccd cl outer A₀ base h₀ L m s Q E B F X N T hk hdp hun hret
  have X₁ := X.keeps F.keep
  obtain ⟨hh, g, d, tk, os⟩ := s
  refine xcall (K := hdT.heap_1 w.params) (bm := [.ref 32, .type "Exception", .type "BaseException", .type "object"]) PySem.F.excBase_Exception (by decide) (by decide) (by decide) X₁ (X₁ _ _ (by k_dflt k_is)) (by k_dflt k_is) (X₁ _ _ (by k_dflt k_is)) rfl (fun h' e hm => ?_) (by rw [sizeLine_eq]; exact Nat.le_of_ble_eq_true rfl)
  rw [under_make]
  obtain ⟨t, he, htn, ht⟩ := hm.there
  have enew : ∀ p ∈ news, p.1 ≠ e := fun p hp q => by have := (N p hp).1; rw [q, hm.new] at this; cases this
  have tnew : t ≠ e := fun q => by rw [q, he] at ht; cases ht
  have fresh : ∀ b, hh.get? b = none → h₀.get? b = none := fun b hb => by
    cases q : h₀.get? b with
    | none => rfl
    | some o => have := F.keep b o q; rw [hb] at this; cases this
  have Lno : ∀ b, hh.get? b = none → b ≠ L := fun b hb q => by
    obtain ⟨o, es, ep, hL, _⟩ := F.ns
    rw [q] at hb
    have hL' : hh.get? L = some o := hL
    rw [hb] at hL'; cases hL'
  have F₁ : Fr h₀ L h' m := F.keeps hm.keeps
  have N₁ : News h₀ L h' ((e, excObj 45 t none) :: (t, ⟨.type "tuple", none, .seq #[v] 0, #[]⟩) :: news) := fun p hp => by
    rcases List.mem_cons.mp hp with rfl | hp
    · exact ⟨he, Lno _ hm.new, fresh _ hm.new⟩
    · rcases List.mem_cons.mp hp with rfl | hp
      · exact ⟨ht, Lno _ htn, fresh _ htn⟩
      · exact ⟨hm.keeps _ _ (N p hp).1, (N p hp).2⟩
  refine Con.use (h0 := h') (gg := g) (dd9 := d) (tk0 := tk) (oo := os) (con_init45 w ((t, ⟨.type "tuple", none, .seq #[v] 0, #[]⟩) :: news) e t v (fun p hp => by
    rcases List.mem_cons.mp hp with rfl | hp
    · exact tnew
    · exact enew p hp)) B F₁ X N₁ T hk (by simp only [recursionLimit] at *; omega) (by have := cLine_is; omega) ?_
  intro dx tk2 h2 tk3 F2 N2
  exact ⟨rfl, hret e t dx tk2 enew _ _ F2 N2⟩
end
-- PH
/-- an exception object of the class C with the dict dx -/
noncomputable def IsX (C dx : Addr) (o : Obj) : Prop := o.cls = .ref C ∧ o.dict = some dx ∧ o.slots = #[]
theorem IsX.map {C dx : Addr} {o : Obj} (x : IsX C dx o) (f : Array Value → Array Value) : IsX C dx (Obj.mapFields f o) := by
  obtain ⟨a, b, c⟩ := x
  obtain ⟨oc, od, oda, os⟩ := o
  cases oda <;> exact ⟨a, b, c⟩
inductive TrX (h base : Heap) (e C dx : Addr) (fl : Value) : Prop
  | mk : ∀ oe vs T oT ts, (h.get? e = some oe) → (IsX C dx oe) → (oe.data = .fields vs) → (vs[1]? = some (.ref T)) → (base.get? T = none) → (T ≠ e) → (h.get? T = some oT) → (oT.data = .fields ts) → (ts[3]? = some fl) → TrX h base e C dx fl
inductive FlyX (base : Heap) (l : List Env) (e C dx : Addr) (fl : Value) (h : Heap) : Prop
  | mk : (base.StaysIn h) → (base.get? e = none) → (h.FunFrames base l) → (TrX h base e C dx fl) → FlyX base l e C dx fl h
section
variable {M : Model} {A : Around} {E : Value → Shared → Prop} {s : Shared} {base : Heap} {env : Env} {outer : List Env} {L e C dx : Addr}
/-- a new entry at the traceback's head -/
theorem x_entry {oe : Obj} {vs : Array Value} {head : Value} {hadNext : Bool} {Q : Unit → Shared → Prop}
    (hfr : A.frames = some (env :: outer)) (hl : s.heap.FunFrames base (env :: outer)) (hf : env.frame = some L)
    (he : s.heap.get? e = some oe) (hkb : base.StaysIn s.heap) (hen : base.get? e = none) (hx : IsX C dx oe) (hd : oe.data = .fields vs) (hsz : 1 < vs.size)
    (h : ∀ h', FlyX base (env :: outer) e C dx (rawInt L) h' → s.heap.UpToSlots h' → Q () { s with heap := h' }) :
    wpAny M A (do let a ← frameOf env; let pl ← entryPlaceOf L hadNext; let b ← EntryCells.newEntry head a .none (rawInt L) .none pl; setField (.ref e) 1 b) Q E s := by
  have hene : e ∉ (env :: outer).filterMap (·.frame) := fun hm => by
    obtain ⟨_, o, ho, hnf⟩ := hl.mem hm
    rw [he] at ho; injection ho with ho; subst ho; exact hnf vs hd
  refine wpAny_bind (wpAny_frameOf_fun hfr hl hf fun h₁ hs₁ => ?_)
  refine wpAny_bind (wpAny_entryPlaceOf fun pl hpl => ?_)
  unfold EntryCells.newEntry newFields
  refine wpAny_bind (wpAny_newObj_type ?_ (hpl.sizeOk5 _ _ _ _ _))
  have he₁ : h₁.get? e = some oe := (hs₁.2.1 e hene).trans he
  have kb₁ : base.StaysIn h₁ := fun b o hbo => (hs₁.2.1 b fun hm => by rw [(hl.mem hm).1] at hbo; cases hbo).trans (hkb b o hbo)
  generalize htb : ({ cls := .type "traceback", dict := none, data := .fields ([head, .ref L, .none, rawInt L, .none] ++ (if pl.isEmpty then List.replicate 6 Value.none else pl)).toArray } : Obj) = tb
  have htbd : tb.data = .fields ([head, .ref L, .none, rawInt L, .none] ++ (if pl.isEmpty then List.replicate 6 Value.none else pl)).toArray := by rw [← htb]
  have htbf : tb.isFreed = false := by rw [← htb]; rfl
  have he₂ := Heap.get?_push_of_some (h := h₁) tb he₁
  refine wpAny_setField he₂ hd hsz (h _ ?_ ?_)
  all_goals (
    have hTe : h₁.objs.size ≠ e := Nat.ne_of_gt (Heap.lt_size he₁)
    have hd₃ := Obj.data_mapFields hd (·.setIfInBounds 1 (Value.ref h₁.objs.size))
    have he₃ := Heap.get?_update_self (Obj.mapFields (·.setIfInBounds 1 (Value.ref h₁.objs.size))) he₂ (Obj.isFreed_of_fields hd₃)
    have hT₃ := (Heap.get?_update_other (h₁.push tb) (Obj.mapFields (·.setIfInBounds 1 (Value.ref h₁.objs.size))) (Ne.symm hTe)).trans (Heap.get?_push_size h₁ htbf)
    have keep : ∀ b o, b ≠ e → h₁.get? b = some o → ((h₁.push tb).update e (Obj.mapFields (·.setIfInBounds 1 (Value.ref h₁.objs.size)))).get? b = some o :=
      fun b o hbe hb => by
        rw [Heap.get?_update_other _ _ (Ne.symm hbe)]
        exact Heap.get?_push_of_some _ hb
    have noRecord : ∀ b o, s.heap.get? b = some o → (∀ vs, o.data ≠ .fields vs) → b ≠ e := fun b o hb hnf q => by
      rw [q, he] at hb; injection hb with hb; subst hb; exact hnf vs hd)
  · refine ⟨fun b o hbo => keep b o (fun q => by rw [q, hen] at hbo; cases hbo) (kb₁ b o hbo), hen, hl.of_keeps fun b o hb hnf => ?_, ?_⟩
    · obtain ⟨sl, hs⟩ := hs₁.2.2 b o hb
      exact ⟨_, keep b _ (noRecord b o hb hnf) hs, rfl⟩
    · exact ⟨_, _, h₁.objs.size, _, _, he₃, hx.map _, hd₃, by simp [hsz], kb₁.fresh, hTe, hT₃, htbd, by first | (simp; done) | (rcases hpl with rfl | ⟨_, _, _, _, _, _, _, rfl⟩ <;> simp)⟩
  · intro b o hb hnf
    obtain ⟨sl, hs⟩ := hs₁.2.2 b o hb
    exact ⟨sl, keep b _ (noRecord b o hb hnf) hs⟩
theorem x_flight {l : List Env} {fl : Value} {Q : Unit → Shared → Prop} (hx : FlyX base l e C dx fl s.heap) (h : ∀ h', FlyX base l e C dx .none h' → s.heap.UpToSlots h' → Q () { s with heap := h' }) : wpAny M A (setFlight (.ref e) none) Q E s := by
  obtain ⟨hkb, hen, hl, oe, vs, T, oT, ts, he, hX, hd, h1, hnT, hTe, hT, hdT, h3⟩ := hx
  have hsz3 : 3 < ts.size := (Array.getElem?_eq_some_iff.mp h3).1
  have other : ∀ b, b ≠ T → (s.heap.update T (Obj.mapFields (·.setIfInBounds 3 ((none : Option Addr).elim Value.none fun f => rawInt f)))).get? b = s.heap.get? b :=
    fun b hb => Heap.get?_update_other _ _ (Ne.symm hb)
  have noRecord : ∀ b o, s.heap.get? b = some o → (∀ vs, o.data ≠ .fields vs) → b ≠ T := fun b o hb hnf q => by
    rw [q, hT] at hb; injection hb with hb; subst hb; exact hnf ts hdT
  unfold setFlight
  refine wpAny_bind (wpAny_field he hd h1 ?_)
  rw [if_pos (show (Value.ref T != Value.none) = true from by simp)]
  refine wpAny_setField hT hdT hsz3 (h _ ⟨fun b o hbo => (other b fun q => by rw [q, hnT] at hbo; cases hbo).trans (hkb b o hbo), hen,
    hl.of_keeps fun b o hb hnf => ⟨o, (other b (noRecord b o hb hnf)).trans hb, rfl⟩, ?_⟩ fun b o hb hnf => ⟨o.slots, (other b (noRecord b o hb hnf)).trans hb⟩)
  exact ⟨oe, vs, T, _, _, (other e (Ne.symm hTe)).trans he, hX, hd, h1, hnT, hTe, Heap.get?_update_self _ hT (Obj.isFreed_of_fields (Obj.data_mapFields hdT _)), Obj.data_mapFields hdT _, by simp [hsz3]⟩
/-- the frame's own entry, the exception flying in from below -/
theorem x_note {Q : Unit → Shared → Prop} (hfr : A.frames = some (env :: outer)) (hf : env.frame = some L) (hx : FlyX base (env :: outer) e C dx .none s.heap)
    (h : ∀ h', FlyX base (env :: outer) e C dx (rawInt L) h' → s.heap.UpToSlots h' → Q () { s with heap := h' }) : wpAny M A (noteFrame (.ref e) env) Q E s := by
  obtain ⟨hkb, hen, hl, oe, vs, T, oT, ts, he, hX, hd, h1, hnT, hTe, hT, hdT, h3⟩ := hx
  unfold noteFrame
  simp only [hf]
  refine wpAny_bind (wpAny_field he hd h1 ?_)
  rw [if_pos (show (Value.ref T != Value.none) = true from by simp)]
  refine wpAny_bind (wpAny_field hT hdT h3 ?_)
  rw [if_neg (show ¬ ((Value.none == rawInt L) = true) from by simp [rawInt])]
  refine wpAny_bind (wpAny_setField hT hdT (Array.getElem?_eq_some_iff.mp h3).1 ?_)
  have other : ∀ b, b ≠ T → (s.heap.update T (Obj.mapFields (·.setIfInBounds 3 Value.none))).get? b = s.heap.get? b := fun b hb => Heap.get?_update_other _ _ (Ne.symm hb)
  have noRecord : ∀ b o, s.heap.get? b = some o → (∀ vs, o.data ≠ .fields vs) → b ≠ T := fun b o hb hnf q => by
    rw [q, hT] at hb; injection hb with hb; subst hb; exact hnf ts hdT
  refine x_entry hfr (hl.of_keeps fun b o hb hnf => ⟨o, (other b (noRecord b o hb hnf)).trans hb, rfl⟩) hf ((other e (Ne.symm hTe)).trans he)
    (fun b o hbo => (other b fun q => by rw [q, hnT] at hbo; cases hbo).trans (hkb b o hbo)) hen hX hd (Array.getElem?_eq_some_iff.mp h1).1
    fun h' x1 x4 => h h' x1 fun b o hb hnf => x4 b o ((other b (noRecord b o hb hnf)).trans hb) hnf
/-- a frame is left that the exception was raised in -/
theorem x_leave_first {oe : Obj} {vs : Array Value} {Q : Unit → Shared → Prop} (hfr : A.frames = some (env :: outer)) (hf : env.frame = some L) (hl : s.heap.FunFrames base (env :: outer))
    (he : s.heap.get? e = some oe) (hkb : base.StaysIn s.heap) (hen : base.get? e = none) (hx : IsX C dx oe) (hd : oe.data = .fields vs) (h1 : vs[1]? = some .none)
    (h : ∀ h', FlyX base outer e C dx .none h' → s.heap.UpToSlots h' → Q () { s with heap := h' }) : wpAny M A (leaving env (.ref e)) Q E s := by
  unfold leaving noteFrame
  simp only [hf]
  refine wpAny_bind (wpAny_bind (wpAny_field he hd h1 ?_))
  rw [if_neg (by decide)]
  refine x_entry hfr hl hf he hkb hen hx hd (Array.getElem?_eq_some_iff.mp h1).1 fun h' x1 x2 => ?_
  refine x_flight x1 fun h'' y1 y2 => h h'' ?_ (x2.trans y2)
  obtain ⟨k1, k2, ⟨_, _, k3⟩, k4⟩ := y1
  exact ⟨k1, k2, k3, k4⟩
/-- a frame is left that it flies through -/
theorem x_leave_on {Q : Unit → Shared → Prop} (hfr : A.frames = some (env :: outer)) (hf : env.frame = some L) (hx : FlyX base (env :: outer) e C dx .none s.heap)
    (h : ∀ h', FlyX base outer e C dx .none h' → s.heap.UpToSlots h' → Q () { s with heap := h' }) : wpAny M A (leaving env (.ref e)) Q E s := by
  unfold leaving
  refine wpAny_bind (x_note hfr hf hx fun h' x1 x2 => ?_)
  refine x_flight x1 fun h'' y1 y2 => h h'' ?_ (x2.trans y2)
  obtain ⟨k1, k2, ⟨_, _, k3⟩, k4⟩ := y1
  exact ⟨k1, k2, k3, k4⟩
end
-- PI
/-- an own exception that has left its frames: it flies over what stays -/
inductive RaisedX (base G : Heap) (l : List Env) (e C dx : Addr) (news : Led) (h : Heap) : Prop
  | mk : ∀ B, (base.StaysIn B) → ((∀ b o, G.get? b = some o → b ∉ l.filterMap (·.frame) → B.get? b = some o)) → ((∀ q ∈ news, B.get? q.1 = some q.2 ∧ G.get? q.1 = none ∧ base.get? q.1 = none)) → (FlyX B l e C dx .none h) → RaisedX base G l e C dx news h
theorem memX {name : Str} {scope : Scope} {L a b : Addr} {cd : Value} {cl : List (Str × Addr)} {outer : List Env} (hm : b ∈ (envX name scope L a cd cl :: outer).filterMap (·.frame)) : b = L ∨ b ∈ outer.filterMap (·.frame) := by
  obtain ⟨env, he, hf⟩ := List.mem_filterMap.mp hm
  rcases List.mem_cons.mp he with rfl | he
  · exact .inl (Option.some.inj hf).symm
  · exact .inr (List.mem_filterMap.mpr ⟨env, he, hf⟩)
section
variable {M : Model} {A : Around} {E : Value → Shared → Prop} {s' : Shared} {base g g₂ : Heap} {outer : List Env} {L a e C dx t : Addr} {m : Str → Option Value} {name : Str} {scope : Scope} {cd : Value} {cl : List (Str × Addr)} {Q : Unit → Shared → Prop} {news : Led}
theorem below_pushX (K : Below A base outer g) {h : Heap} (F : Fr g L h m) (hk : scope.kind = .function) : Below (A.deeper (envX name scope L a cd cl)) base (envX name scope L a cd cl :: outer) h := by
  have hnew : base.get? L = none := by
    cases hq : base.get? L with
    | none => rfl
    | some o => exact absurd (Nat.lt_of_lt_of_le (Heap.lt_size (K.stays L o hq)) F.above) (Nat.lt_irrefl _)
  refine ⟨Around.frames_deeper K.stack, fun b o e => F.keep b o (K.stays b o e), ?_⟩
  exact .cons (by show scope.kind ≠ .module; rw [hk]; decide) rfl F.ns hnew (K.frames.of_keeps fun b o e _ => ⟨o, F.keep b o e, rfl⟩)
theorem leave_raiseX (K : Below A base outer g) (F : Fr g L s'.heap m) (N : News g L s'.heap news) (hE : (e, excObj C t (some dx)) ∈ news) (keep : Led) (hkp : ∀ p ∈ keep, p ∈ news ∧ p.1 ≠ e)
    (hQ : ∀ h', RaisedX base g outer e C dx keep h' → g.UpToSlots h' → Q () { s' with heap := h' }) (hk : scope.kind = .function := by rfl) :
    wpAny M (A.deeper (envX name scope L a cd cl)) (leaving (envX name scope L a cd cl) (.ref e)) Q E s' := by
  have K' := below_pushX (name := name) (a := a) (cd := cd) (cl := cl) K F hk
  have he := (N _ hE).1
  let fr := (envX name scope L a cd cl :: outer).filterMap (·.frame)
  have hin : ∀ env ∈ (envX name scope L a cd cl :: outer), ∀ b, env.frame = some b → b ∈ e :: fr := fun env he b hb => .tail _ (List.mem_filterMap.mpr ⟨env, he, hb⟩)
  have ebase : base.get? e = none := fresh_of_stays K.stays (N _ hE).2.2
  have st : base.StaysIn (hideAll s'.heap (e :: fr)) := fun b o q => hideAll_get _ (K'.stays b o q) fun hm => by
    rcases List.mem_cons.mp hm with z | hm
    · rw [z, ebase] at q; cases q
    · rw [(K'.frames.mem hm).1] at q; cases q
  have sg : ∀ b o, g.get? b = some o → b ∉ outer.filterMap (·.frame) → (hideAll s'.heap (e :: fr)).get? b = some o := fun b o q nm => hideAll_get _ (F.keep b o q) fun hm => by
    rcases List.mem_cons.mp hm with z | hm
    · rw [z, (N _ hE).2.2] at q; cases q
    · rcases memX hm with z | z
      · rw [z, kts_self F] at q; cases q
      · exact nm z
  have hl : ∀ q ∈ keep, (hideAll s'.heap (e :: fr)).get? q.1 = some q.2 ∧ g.get? q.1 = none ∧ base.get? q.1 = none := fun q hq => by
    obtain ⟨hq1, hq2⟩ := hkp q hq
    refine ⟨hideAll_get _ (N q hq1).1 fun hm => ?_, (N q hq1).2.2, fresh_of_stays K.stays (N q hq1).2.2⟩
    rcases List.mem_cons.mp hm with z | hm
    · exact hq2 z
    · obtain ⟨env, he, hf⟩ := List.mem_filterMap.mp hm
      rcases List.mem_cons.mp he with rfl | he
      · exact (N q hq1).2.1 (Option.some.inj hf).symm
      · obtain ⟨o, ho, _⟩ := (K.frames.mem (List.mem_filterMap.mpr ⟨env, he, hf⟩)).2
        rw [(N q hq1).2.2] at ho; cases ho
  refine x_leave_first (base := hideAll s'.heap (e :: fr)) (C := C) (dx := dx) K'.stack rfl (funFrames_hide K'.frames hin) he (fun b o q => of_hideAll _ q) (hideAll_none _ (.head _)) ⟨rfl, rfl, rfl⟩ rfl rfl fun h' x1 x2 => ?_
  exact hQ h' ⟨_, st, sg, hl, x1⟩ ((Heap.UpToSlots.of_keeps F.keep).trans x2)
theorem leave_onX (K : Below A base outer g) (F : Fr g L g₂ m) (R : RaisedX base g₂ (envX name scope L a cd cl :: outer) e C dx news s'.heap) (hsm : g₂.UpToSlots s'.heap)
    (hQ : ∀ h', RaisedX base g outer e C dx news h' → g.UpToSlots h' → Q () { s' with heap := h' }) :
    wpAny M (A.deeper (envX name scope L a cd cl)) (leaving (envX name scope L a cd cl) (.ref e)) Q E s' := by
  obtain ⟨B, hB, hBG, hl, hfl⟩ := R
  exact x_leave_on (Around.frames_deeper K.stack) rfl hfl fun h' x1 x2 => hQ h' ⟨B, hB, fun b o q nm => hBG b o (F.keep b o q) (fun hm => by
    rcases memX hm with z | z
    · rw [z, kts_self F] at q; cases q
    · exact nm z), fun q hq => ⟨(hl q hq).1, kts_none F.keep (hl q hq).2.1, (hl q hq).2.2⟩, x1⟩ ((Heap.UpToSlots.of_keeps F.keep).trans (hsm.trans x2))
end
theorem leave_make {M : Model} {A : Around} {E : Value → Shared → Prop} {s' : Shared} {base g : Heap} {outer : List Env} {L a e C dx t : Addr} {m : Str → Option Value} {name : Str} {scope : Scope} {cd : Value} {cl : List (Str × Addr)} {Q : Unit → Shared → Prop} {w : World} {v : Value} {tk : Tok} {ot : Obj} {rest : Led} {keep : Led}
    (K : Below A base outer g) (F : Fr g L s'.heap m) (N : News g L s'.heap ((dx, toldDict w v tk) :: (e, excObj C t (some dx)) :: (t, ot) :: rest)) (he : ∀ p ∈ rest, p.1 ≠ e) (sub : ∀ p ∈ keep, p ∈ rest)
    (hQ : ∀ h', RaisedX base g outer e C dx ((dx, toldDict w v tk) :: keep) h' → g.UpToSlots h' → Q () { s' with heap := h' }) (hk : scope.kind = .function := by rfl) :
    wpAny M (A.deeper (envX name scope L a cd cl)) (leaving (envX name scope L a cd cl) (.ref e)) Q E s' := by
  refine leave_raiseX K F N (.tail _ (.head _)) _ (fun p hp => ?_) hQ hk
  rcases List.mem_cons.mp hp with rfl | hp
  · refine ⟨.head _, fun z => ?_⟩
    have h1 := (N _ (.head _)).1
    have h2 := (N _ (.tail _ (.head _))).1
    dsimp only at z h1 h2
    rw [z, h2] at h1
    cases h1
  · exact ⟨.tail _ (.tail _ (.tail _ (sub p hp))), he p (sub p hp)⟩
/-- a contract of a call that may raise one of the text's own exceptions -/
noncomputable def ConX (w : World) (f : Addr) (args : List Value) (dd uu : Nat) (news : Led) (P : Kont) (PE : (Addr → Value → Led → Prop) → Prop) : Prop :=
  ∀ (loose : List Str) (mean : ExcName → Option Value) (mg mb : Str → Option Value) (dp un : Nat) (gd : Option (List Code)) (cn : Str) (cs : Scope) (a : Addr) (ccd : Value) (cl : List (Str × Addr)) (outer : List Env) (A₀ : Around) (base h₀ : Heap) (L : Addr) (m : Str → Option Value) (s : Shared)
    (Q E : Value → Shared → Prop),
    Below A₀ base outer h₀ → Fr h₀ L s.heap m → (hdT.heap_1 w.params).In h₀ → News h₀ L s.heap news → Top topProg loose mean mg mb h₀ → cs.kind = .function → dp + dd < recursionLimit → un + uu < cLine →
    P (fun r news' => ∀ h' tk', Fr h₀ L h' m → News h₀ L h' news' → Q r { s with heap := h', toks := tk' }) →
    PE (fun C v news' => ∀ e dx tk g₂ h' tk', RaisedX base g₂ (envX cn cs L a ccd cl :: outer) e C dx ((dx, toldDict w v tk) :: news') h' → Fr h₀ L g₂ m → g₂.UpToSlots h' → E (.ref e) { s with heap := h', toks := tk' }) →
    wpAny (model PySem.Challenge.rw_nt0006_01.row.prog w) (ktrTop dp un gd cn cs L a ccd cl outer) (call (.ref f) args) Q E s
theorem ConX.use {w : World} {f : Addr} {args : List Value} {dd uu : Nat} {news : Led} {P : Kont} {PE : (Addr → Value → Led → Prop) → Prop} (C : ConX w f args dd uu news P PE)
    {loose : List Str} {mean : ExcName → Option Value} {mg mb : Str → Option Value} {dp un : Nat} {gd : Option (List Code)} {cn : Str} {cs : Scope} {a : Addr} {ccd : Value} {cl : List (Str × Addr)} {outer : List Env} {A₀ : Around} {base h₀ : Heap} {L : Addr} {m : Str → Option Value} {h0 : Heap} {gg : Array GenState} {dd9 : Drawn} {tk0 : Nat} {oo : OsState}
    {Q E : Value → Shared → Prop}
    (B : Below A₀ base outer h₀) (F : Fr h₀ L h0 m) (X : (hdT.heap_1 w.params).In h₀) (N : News h₀ L h0 news) (T : Top topProg loose mean mg mb h₀) (hk : cs.kind = .function) (hd' : dp + dd < recursionLimit) (hu : un + uu < cLine)
    (h : P (fun r news' => ∀ h' tk', Fr h₀ L h' m → News h₀ L h' news' → Q r ⟨h', gg, dd9, tk', oo⟩))
    (hE : PE (fun C v news' => ∀ e dx tk g₂ h' tk', RaisedX base g₂ (envX cn cs L a ccd cl :: outer) e C dx ((dx, toldDict w v tk) :: news') h' → Fr h₀ L g₂ m → g₂.UpToSlots h' → E (.ref e) ⟨h', gg, dd9, tk', oo⟩)) :
    wpAny (model PySem.Challenge.rw_nt0006_01.row.prog w) (ktrTop dp un gd cn cs L a ccd cl outer) (call (.ref f) args) Q E ⟨h0, gg, dd9, tk0, oo⟩ :=
  C loose mean mg mb dp un gd cn cs a ccd cl outer A₀ base h₀ L m ⟨h0, gg, dd9, tk0, oo⟩ Q E B F X N T hk hd' hu h hE
noncomputable def XMade (E : Value → Shared → Prop) (w : World) (C : Addr) (v : Value) (s₁ : Shared) : Prop :=
  ∃ e oe vs, v = .ref e ∧ (hdT.heap_1 w.params).In s₁.heap ∧ s₁.heap.get? e = some oe ∧ oe.cls = .ref C ∧ oe.data = .fields vs ∧ vs[1]? = some .none ∧ E (.ref e) s₁
theorem XMade.intro {E : Value → Shared → Prop} {w : World} {C t dx e : Addr} {s₁ : Shared} {h₀ : Heap} {L : Addr} {m : Str → Option Value} {news : Led} (X : (hdT.heap_1 w.params).In h₀) (F : Fr h₀ L s₁.heap m) (N : News h₀ L s₁.heap news) (hm : (e, excObj C t (some dx)) ∈ news) (h : E (.ref e) s₁) : XMade E w C (.ref e) s₁ :=
  ⟨e, _, _, rfl, X.keeps F.keep, (N _ hm).1, rfl, rfl, rfl, h⟩
theorem Raise57 {w : World} {A : Around} {E : Value → Shared → Prop} {s : Shared} {env : Env} {c : Expr} {pos : Pos} {Q : Flow → Shared → Prop} (hh : A.handled = none)
    (h : wpAny (model PySem.Challenge.rw_nt0006_01.row.prog w) A (eval c env) (XMade E w 57) E s) : wpAny (model PySem.Challenge.rw_nt0006_01.row.prog w) A (exec (.Raise (some c) none pos) env) Q E s :=
  Raise_x (K := hdT.heap_1 w.params) (C := 57) (by k_dflt k_is) (by k_dflt k_is) hh (wpAny_mono h (fun v s₁ x => x) fun _ _ x => x)
theorem Raise45 {w : World} {A : Around} {E : Value → Shared → Prop} {s : Shared} {env : Env} {c : Expr} {pos : Pos} {Q : Flow → Shared → Prop} (hh : A.handled = none)
    (h : wpAny (model PySem.Challenge.rw_nt0006_01.row.prog w) A (eval c env) (XMade E w 45) E s) : wpAny (model PySem.Challenge.rw_nt0006_01.row.prog w) A (exec (.Raise (some c) none pos) env) Q E s :=
  Raise_x (K := hdT.heap_1 w.params) (C := 45) (by k_dflt k_is) (by k_dflt k_is) hh (wpAny_mono h (fun v s₁ x => x) fun _ _ x => x)
-- PJ
example : True := by w_top off; k_with_none; trivial
theorem find_snoc {us : List Int} {p : Int → Bool} {i : Nat} (h : i < us.length) (h0 : (us.take i).find? p = none) : (us.take (i + 1)).find? p = if p (us.getD i 0) = true then some (us.getD i 0) else none := by
  have e : us.getD i 0 = us[i] := by simp [List.getD, h]
  rw [List.take_add_one, List.getElem?_eq_getElem h, List.find?_append, h0, e]
  simp [List.find?_cons]
  cases p us[i] <;> rfl
theorem find_here {us : List Int} {p : Int → Bool} {i : Nat} (h : i < us.length) (h0 : (us.take i).find? p = none) (hp : p (us.getD i 0) = true) : us.find? p = some (us.getD i 0) := by
  have e := find_snoc h h0
  rw [if_pos hp] at e
  have e2 : us.find? p = (us.take (i + 1) ++ us.drop (i + 1)).find? p := by rw [List.take_append_drop]
  rw [e2, List.find?_append, e]
  rfl
theorem con_check (w : World) (news : Led) (U : Addr) (vs : List Value) (us : List Int) (n : Nat) (hU : (U, listOf vs.toArray n) ∈ news) (hi : IntsAre vs us) (hlen : us.length ≤ 100) :
    ConX w 101 [.ref U] 20 200 news (fun k => us.find? (fun c => !isScal c) = none → k .none news) (fun k => ∀ c t, us.find? (fun c => !isScal c) = some c → k 57 (.int c t) news) := by
  k_with_none
  k_with "exec Raise some none" => (k_here; first   | ((with_reducible show wpAny _ _ (exec (Stmt.Raise (some (Expr.Call (Expr.Name (Str.ofString "BadCode") _) _ _ _)) none _) _) _ _ _); k_dflt (refine Raise57 (by rfl) ?_))   | ((with_reducible show wpAny _ _ (exec (Stmt.Raise (some (Expr.Call (Expr.Name (Str.ofString "BadEncoding") _) _ _ _)) none _) _) _ _ _); k_dflt (refine Raise45 (by rfl) ?_)))
  k_with "XMade" => (k_dflt (refine XMade.intro (by k_asm) (by k_asm) (by k_asm) (by k_mem) ?_))
  k_with "call ref" => (k_here; k_dflt (refine' Con.use ?z5kC ?z5k1 ?z5k2 ?z5k3 ?z5k4 ?z5k5 ?z5kK ?z5kd ?z5ku ?_; (case z5k2 => k_asm); (case z5k4 => k_asm); (case z5kC => first | exact con_is_scalar _ _ _ _); (case z5k1 => k_asm); (case z5k3 => k_asm); (case z5k5 => k_asm); (case z5kK => first | exact rfl | assumption); (case z5kd => ktr_room); (case z5ku => ktr_units); intro _ _ _ _; (try dsimp only); (try k_fold)))
  k_with "call ref" => (k_here; k_dflt (refine' Con.use ?z6kC ?z6k1 ?z6k2 ?z6k3 ?z6k4 ?z6k5 ?z6kK ?z6kd ?z6ku ?_; (case z6k2 => k_asm); (case z6k4 => k_asm); (case z6kC => first | exact con_make57 _ _ _ | exact con_make45 _ _ _); (case z6k1 => k_asm); (case z6k3 => k_asm); (case z6k5 => k_asm); (case z6kK => first | exact rfl | assumption); (case z6kd => ktr_room); (case z6ku => ktr_units); intro _ _ _ _ _ _ _ _ _; (try dsimp only); (try k_fold)))
  k_with_none
  k_with "exec Raise some none" => (k_here; first   | ((with_reducible show wpAny _ _ (exec (Stmt.Raise (some (Expr.Call (Expr.Name (Str.ofString "BadCode") _) _ _ _)) none _) _) _ _ _); k_dflt (refine Raise57 (by rfl) ?_))   | ((with_reducible show wpAny _ _ (exec (Stmt.Raise (some (Expr.Call (Expr.Name (Str.ofString "BadEncoding") _) _ _ _)) none _) _) _ _ _); k_dflt (refine Raise45 (by rfl) ?_)))
  k_with "XMade" => (k_dflt (refine XMade.intro (by k_asm) (by k_asm) (by k_asm) (by k_mem) ?_))
  k_with "call ref" => (k_here; k_dflt (refine' Con.use ?z5kC ?z5k1 ?z5k2 ?z5k3 ?z5k4 ?z5k5 ?z5kK ?z5kd ?z5ku ?_; (case z5k2 => k_asm); (case z5k4 => k_asm); (case z5kC => first | exact con_is_scalar _ _ _ _); (case z5k1 => k_asm); (case z5k3 => k_asm); (case z5k5 => k_asm); (case z5kK => first | exact rfl | assumption); (case z5kd => ktr_room); (case z5ku => ktr_units); intro _ _ _ _; (try dsimp only); (try k_fold)))
  k_with "call ref" => (k_here; k_dflt (refine' Con.use ?z6kC ?z6k1 ?z6k2 ?z6k3 ?z6k4 ?z6k5 ?z6kK ?z6kd ?z6ku ?_; (case z6k2 => k_asm); (case z6k4 => k_asm); (case z6kC => first | exact con_make57 _ _ _ | exact con_make45 _ _ _); (case z6k1 => k_asm); (case z6k3 => k_asm); (case z6k5 => k_asm); (case z6kK => first | exact rfl | assumption); (case z6kd => ktr_room); (case z6ku => ktr_units); intro _ _ _ _ _ _ _ _ _; (try dsimp only); (try k_fold)))
  unfold ConX
  intro loose mean mg mb dp un gd cn cs a ccd cl outer A₀ base h₀ L m s Q E B F X N T hk hdp hun hret herr
  refine wpAny_call ?_
  k_dflt (refine' code_def ?k1 ?k2 ?k3 ?k4 ?k5 ?kA ?kF ?kK ?k6 ?k7 ?k8 ?k9 ?kB ?_ ?c2 ?c3 ?c4 ?c5; (case kA => exact rfl); (case kF => exact rfl); (case kK => assumption); (case k1 => k_asm); (case k2 => k_asm); (case k3 => k_asm); (case k4 => k_asm); (case k5 => k_asm); (case k6 => k_is); (case k7 => k_is); (case k8 => ktr_room); (case k9 => first | exact BindsTo.of_eq rfl | exact binds_K (by k_in) rfl (by k_is) rfl rfl rfl); (case c5 => decide); (case kB => exact locs rfl); (case c2 => exact rfl); (case c3 => exact rfl); (case c4 => exact rfl); k_whole; intro g' L' h' FG' F' N' B' X' T'; (try dsimp only); (try k_fold))
  refine enter_nmX ?_
  intro q0 hq0
  refine nameAEX ?_
  intro Av Ev Xv
  replace F' : Fr g' L' h' (fun y => List.lookup y [(Str.ofString "text", .ref U)]) := fr_eq F' (by rfl)
  try generalize s.toks + List.length _ = tk0
  have hvl : vs.length = us.length := IntsAre.length hi
  k_with "exec For Name Name cons nil" => (k_dflt ((rename Fr _ _ _ _ => lF9); (with_unfolding_all refine' For_turns lF9 ?_; k_whole)))
  k_steps
  k_dflt (refine for_list (by rfl) (by k_asm) (by k_asm) (by k_mem) (fun i m₁ n₁ => n₁ = news ∧ (us.take i).find? (fun c => !isScal c) = none ∧ ∃ c, m₁ = fun y => if y = Str.ofString "code" then c else List.lookup y [(Str.ofString "text", Value.ref U)]) ⟨rfl, by simp, none, ?m0⟩ ?turn ?fin)
  case m0 =>
    funext y
    split
    · rename_i e; rw [e]; rfl
    · rfl
  case turn =>
    intro i v m₁ n₁ own h9 tk9 hv hJ hoff hw hown F9 N9
    obtain ⟨rfl, hfi, c, rfl⟩ := hJ
    obtain ⟨hlt, tv, rfl⟩ := ints_item hi hv
    obtain ⟨rest, hrest⟩ : ∃ r, r = n₁ ++ own := ⟨_, rfl⟩
    rw [← hrest] at N9
    have hU9 : (U, listOf vs.toArray n) ∈ rest := hrest ▸ List.mem_append_left _ hU
    k_steps
    all_goals subst hrest
    · refine TurnEnd.intro (by k_asm) (by k_asm) hoff ⟨rfl, ?_, some (.int (us.getD i 0) tv), ?_⟩
      · rename isScal _ = _ => hs9
        rw [find_snoc hlt hfi, if_neg (by rw [hs9]; decide)]
      · funext y
        by_cases hq : y = Str.ofString "code"
        · subst hq; rfl
        · simp only [setN, setO, hq, if_false]
    · rename isScal _ = _ => hs9
      refine leave_make (keep := n₁) (by k_asm) (by k_asm) (by k_asm) (by assumption) (fun p hp => List.mem_append_left _ hp) fun h' R' U' => ?_
      exact herr _ _ (find_here hlt hfi (by rw [hs9]; rfl)) _ _ _ _ _ _ R' FG' U'
  case fin =>
    rintro m₁ n₁ h9 tk9 ⟨rfl, hfi, c, rfl⟩ F9 N9
    k_steps
    rw [hvl, List.take_length] at hfi
    exact hret hfi _ _ (by k_asm) (by k_asm)
-- PK
example : True := by w_top off; k_with_none; trivial
noncomputable def unitsOf (c : Int) : List Int := if c < 65536 then [c] else [55296 + (c - 65536) / 1024, 56320 + c % 1024]
noncomputable def unitsL (us : List Int) : List Int := us.flatMap unitsOf
theorem unitsL_snoc (us : List Int) (c : Int) : unitsL (us ++ [c]) = unitsL us ++ unitsOf c := by simp [unitsL]
theorem unitsL_len (us : List Int) : (unitsL us).length ≤ 2 * us.length := by
  induction us with
  | nil => simp [unitsL]
  | cons c r ih =>
    have : (unitsOf c).length ≤ 2 := by unfold unitsOf; split <;> simp
    simp only [unitsL, List.flatMap_cons, List.length_append, List.length_cons] at *
    omega
theorem take_snoc {us : List Int} {i : Nat} (h : i < us.length) : us.take (i + 1) = us.take i ++ [us.getD i 0] := by
  rw [List.take_add_one, List.getElem?_eq_getElem h]; simp [List.getD, h]
theorem scal_at {us : List Int} (h : us.find? (fun c => !isScal c) = none) {i : Nat} (hi : i < us.length) : isScal (us.getD i 0) = true := by
  have := List.find?_eq_none.mp h (us.getD i 0) (by simp [List.getD, hi])
  simpa using this
theorem units_two {vs : List Value} {ns : List Int} (h : IntsAre vs ns) {c : Int} (hc : 65536 ≤ c) (t u : Tok) :
    IntsAre ((vs ++ [.int (55296 + (c - 65536).fdiv (2 ^ Int.toNat 10)) t]) ++ [.int (56320 + Builtin.bitAnd (c - 65536) 1023) u]) (ns ++ [55296 + (c - 65536) / 1024, 56320 + c % 1024]) := by
  have e1 : (c - 65536).fdiv (2 ^ Int.toNat 10) = (c - 65536) / 1024 := fdiv_pow (by omega) 10
  have e2 : Builtin.bitAnd (c - 65536) 1023 = c % 1024 := by rw [band_1023 (by omega)]; exact Int.sub_mul_emod_self_left c 1024 64
  rw [e1, e2]
  have := ints_snoc (ints_snoc h (55296 + (c - 65536) / 1024) t) (56320 + c % 1024) u
  rw [List.append_assoc, List.append_assoc] at this
  rw [List.append_assoc]
  exact this
theorem scal_bounds {c : Int} (h : isScal c = true) : 0 ≤ c ∧ c ≤ 1114111 := by
  simp only [isScal, Bool.and_eq_true, decide_eq_true_eq] at h
  exact h.1
inductive JKa (Fd : Addr) (news : Led) (us : List Int) (U : Addr) (i : Nat) (m₁ : Str → Option Value) (n₁ : Led) : Prop
  | mk : ∀ vs' n', (n₁ = (Fd, listOf vs'.toArray n') :: news) → (IntsAre vs' (unitsL (us.take i))) → (Kp [Str.ofString "code", Str.ofString "above"] (fun y => if y = Str.ofString "found" then some (.ref Fd) else List.lookup y [(Str.ofString "text", .ref U)]) m₁) → JKa Fd news us U i m₁ n₁
theorem con_units (w : World) (news : Led) (U : Addr) (vs : List Value) (us : List Int) (n : Nat) (hU : (U, listOf vs.toArray n) ∈ news) (hi : IntsAre vs us) (hlen : us.length ≤ 100) :
    ConX w 108 [.ref U] 40 300 news (fun k => us.find? (fun c => !isScal c) = none → ∀ l vs' n', IntsAre vs' (unitsL us) → (∀ p ∈ news, p.1 < l) → k (.ref l) ((l, listOf vs'.toArray n') :: news)) (fun k => ∀ c t, us.find? (fun c => !isScal c) = some c → k 57 (.int c t) news) := by
  k_with_none
  k_with "exec Raise some none" => (k_here; first   | ((with_reducible show wpAny _ _ (exec (Stmt.Raise (some (Expr.Call (Expr.Name (Str.ofString "BadCode") _) _ _ _)) none _) _) _ _ _); k_dflt (refine Raise57 (by rfl) ?_))   | ((with_reducible show wpAny _ _ (exec (Stmt.Raise (some (Expr.Call (Expr.Name (Str.ofString "BadEncoding") _) _ _ _)) none _) _) _ _ _); k_dflt (refine Raise45 (by rfl) ?_)))
  k_with "XMade" => (k_dflt (refine XMade.intro (by k_asm) (by k_asm) (by k_asm) (by k_mem) ?_))
  k_with "call ref" => (k_here; k_dflt (refine' ConX.use ?z9kC ?z9k1 ?z9k2 ?z9k3 ?z9k4 ?z9k5 ?z9kK ?z9kd ?z9ku ?_ ?_; (case z9k2 => k_asm); (case z9k4 => k_asm); (case z9kC => first | (refine' con_check _ _ _ _ _ _ ?z9b1 ?z9b2 ?z9b3; (case z9b1 => k_mem); (case z9b2 => assumption); (case z9b3 => omega))); (case z9k1 => k_asm); (case z9k3 => k_asm); (case z9k5 => k_asm); (case z9kK => first | exact rfl | assumption); (case z9kd => ktr_room); (case z9ku => ktr_units); intro _ h9 tk9 _ _; (try dsimp only); (try k_fold); rotate_left; intro _ _ _ _ _ _ _ _ _ _ _ _; (try dsimp only); rotate_right))
  k_with_none
  k_with "exec Raise some none" => (k_here; first   | ((with_reducible show wpAny _ _ (exec (Stmt.Raise (some (Expr.Call (Expr.Name (Str.ofString "BadCode") _) _ _ _)) none _) _) _ _ _); k_dflt (refine Raise57 (by rfl) ?_))   | ((with_reducible show wpAny _ _ (exec (Stmt.Raise (some (Expr.Call (Expr.Name (Str.ofString "BadEncoding") _) _ _ _)) none _) _) _ _ _); k_dflt (refine Raise45 (by rfl) ?_)))
  k_with "XMade" => (k_dflt (refine XMade.intro (by k_asm) (by k_asm) (by k_asm) (by k_mem) ?_))
  k_with "call ref" => (k_here; k_dflt (refine' ConX.use ?z9kC ?z9k1 ?z9k2 ?z9k3 ?z9k4 ?z9k5 ?z9kK ?z9kd ?z9ku ?_ ?_; (case z9k2 => k_asm); (case z9k4 => k_asm); (case z9kC => first | (refine' con_check _ _ _ _ _ _ ?z9b1 ?z9b2 ?z9b3; (case z9b1 => k_mem); (case z9b2 => assumption); (case z9b3 => omega))); (case z9k1 => k_asm); (case z9k3 => k_asm); (case z9k5 => k_asm); (case z9kK => first | exact rfl | assumption); (case z9kd => ktr_room); (case z9ku => ktr_units); intro _ h9 tk9 _ _; (try dsimp only); (try k_fold); rotate_left; intro _ _ _ _ _ _ _ _ _ _ _ _; (try dsimp only); rotate_right))
  unfold ConX
  intro loose mean mg mb dp un gd cn cs a ccd cl outer A₀ base h₀ L m s Q E B F X N T hk hdp hun hret herr
  refine wpAny_call ?_
  k_dflt (refine' code_def ?k1 ?k2 ?k3 ?k4 ?k5 ?kA ?kF ?kK ?k6 ?k7 ?k8 ?k9 ?kB ?_ ?c2 ?c3 ?c4 ?c5; (case kA => exact rfl); (case kF => exact rfl); (case kK => assumption); (case k1 => k_asm); (case k2 => k_asm); (case k3 => k_asm); (case k4 => k_asm); (case k5 => k_asm); (case k6 => k_is); (case k7 => k_is); (case k8 => ktr_room); (case k9 => first | exact BindsTo.of_eq rfl | exact binds_K (by k_in) rfl (by k_is) rfl rfl rfl); (case c5 => decide); (case kB => exact locs rfl); (case c2 => exact rfl); (case c3 => exact rfl); (case c4 => exact rfl); k_whole; intro g' L' h' FG' F' N' B' X' T'; (try dsimp only); (try k_fold))
  refine enter_nmX ?_
  intro q0 hq0
  refine nameAEX ?_
  intro Av Ev Xv
  replace F' : Fr g' L' h' (fun y => List.lookup y [(Str.ofString "text", .ref U)]) := fr_eq F' (by rfl)
  try generalize s.toks + List.length _ = tk0
  have hvl : vs.length = us.length := IntsAre.length hi
  k_with "exec For Name Name cons nil" => (k_dflt ((rename Fr _ _ _ _ => lF9); (with_unfolding_all refine' For_turns lF9 ?_; k_whole)))
  k_steps
  · rename List.find? _ us = none => hok9
    rename ∀ p ∈ news, p.1 < _ => hlt9
    rename_i Fd _ _ _ _ _ _ _
    k_dflt (refine for_list (by rfl) (by k_asm) (by k_asm) (by k_mem) (JKa Fd news us U) ⟨[], 0, rfl, .nil, .refl⟩ ?turn ?fin)
    case turn =>
      intro i v m₁ n₁ own h9 tk9 hv hJ hoff hw hown F9 N9
      obtain ⟨vs', n', rfl, hvs, hkp⟩ := hJ
      obtain ⟨c, a, rfl⟩ := hkp.shape2
      obtain ⟨hlt, tv, rfl⟩ := ints_item hi hv
      have hsc := scal_bounds (scal_at hok9 hlt)
      obtain ⟨rest, hrest⟩ : ∃ r, r = news ++ own := ⟨_, rfl⟩
      rw [List.cons_append, ← hrest] at N9
      have hU9 : (U, listOf vs.toArray n) ∈ rest := hrest ▸ List.mem_append_left _ hU
      have hFd : ∀ p ∈ rest, p.1 ≠ Fd := hrest ▸ fd_list hlt9 hoff hown hU
      have hvl9 : vs'.length ≤ 200 := by
        have := unitsL_len (us.take i)
        have h2 : vs'.length = (unitsL (us.take i)).length := IntsAre.length hvs
        have h3 : (us.take i).length ≤ us.length := by rw [List.length_take]; exact Nat.min_le_right _ _
        omega
      k_steps
      all_goals subst hrest
      all_goals (rename News _ _ _ ((Fd, _) :: _) => N99; simp only [List.push_toArray] at N99)
      all_goals refine TurnEnd.intro (n' := (Fd, _) :: news) (by k_asm) (by k_asm) (off_re hoff) ⟨_, _, rfl, ?_, by walk_at "kp"⟩
      · rw [take_snoc hlt, unitsL_snoc, unitsOf, if_pos (by assumption)]
        exact ints_snoc hvs _ _
      · rename ¬ _ < (65536 : Int) => hge
        rw [take_snoc hlt, unitsL_snoc, unitsOf, if_neg hge]
        exact units_two hvs (by omega) _ _
    case fin =>
      rintro m₁ n₁ h9 tk9 ⟨vs', n', rfl, hvs, hkp⟩ F9 N9
      obtain ⟨c, a, rfl⟩ := hkp.shape2
      k_steps
      rw [hvl, List.take_length] at hvs
      exact hret hok9 _ _ _ hvs hlt9 _ _ (by k_asm) (by k_asm)
  · refine leave_onX (by k_asm) (by k_asm) (by assumption) (by assumption) fun h' R' U' => ?_
    exact herr _ _ ‹_› _ _ _ _ _ _ R' FG' U'
-- PM
example : True := by w_top off; k_with_none; trivial
abbrev tupO (l : List Value) : Obj := { cls := .type "tuple", data := .seq l.toArray }
noncomputable def inR (c : Int) : Bool := decide (0 ≤ c) && decide (c ≤ 65535)
noncomputable def okAt (us : List Int) (i : Nat) : Bool := inR (us.getD i 0) && decide (faultS us i = "")
theorem fault_bne (us : List Int) (k : Nat) : (Str.ofString (faultS us k) != Str.ofString "") = decide (¬ faultS us k = "") := by
  show (!(Str.ofString (faultS us k) == Str.ofString "")) = _
  rw [fault_beq, decide_not]
theorem high_bounds {c : Int} (h : isHigh c = true) : 55296 ≤ c ∧ c ≤ 56319 := by simpa [isHigh] using h
theorem low_bounds {c : Int} (h : isLow c = true) : 56320 ≤ c ∧ c ≤ 57343 := by simpa [isLow] using h
theorem high_not_low {c : Int} (h : isHigh c = true) : isLow c = false := by
  have := high_bounds h
  simp only [isLow, Bool.and_eq_false_iff, decide_eq_false_iff_not]; omega
theorem fault_high {us : List Int} {i : Nat} (h : faultS us i = "") (hh : isHigh (us.getD i 0) = true) : i + 1 < us.length ∧ isLow (us.getD (i + 1) 0) = true := by
  rw [faultS, high_not_low hh, if_neg (by decide), if_pos hh] at h
  by_cases g : (decide (i + 1 < us.length) && isLow (us.getD (i + 1) 0)) = true
  · simpa using g
  · exfalso
    rw [if_neg g] at h
    exact absurd h (by decide)
theorem all_snoc {p : Nat → Bool} {i : Nat} (h : ∀ j, j < i → p j = true) (hi : p i = true) : ∀ j, j < i + 1 → p j = true := fun j hj => by
  rcases Nat.lt_succ_iff_lt_or_eq.mp hj with h' | rfl
  · exact h j h'
  · exact hi
theorem ok_of {us : List Int} {i : Nat} (h1 : 0 ≤ us.getD i 0) (h2 : us.getD i 0 ≤ 65535) (h3 : faultS us i = "") : okAt us i = true := by
  simp only [okAt, inR, h1, h2, h3, decide_true, Bool.and_self]
theorem leave_make1 {M : Model} {A : Around} {E : Value → Shared → Prop} {s' : Shared} {base g : Heap} {outer : List Env} {L a e C dx t : Addr} {m : Str → Option Value} {name : Str} {scope : Scope} {cd : Value} {cl : List (Str × Addr)} {Q : Unit → Shared → Prop} {w : World} {v : Value} {tk : Tok} {ot : Obj} {d : Addr × Obj} {rest : Led} {keep : Led}
    (K : Below A base outer g) (F : Fr g L s'.heap m) (N : News g L s'.heap ((dx, toldDict w v tk) :: (e, excObj C t (some dx)) :: (t, ot) :: d :: rest)) (he : ∀ p ∈ d :: rest, p.1 ≠ e) (sub : ∀ p ∈ keep, p ∈ rest)
    (hQ : ∀ h', RaisedX base g outer e C dx ((dx, toldDict w v tk) :: d :: keep) h' → g.UpToSlots h' → Q () { s' with heap := h' }) (hk : scope.kind = .function := by rfl) :
    wpAny M (A.deeper (envX name scope L a cd cl)) (leaving (envX name scope L a cd cl) (.ref e)) Q E s' :=
  leave_make (keep := d :: keep) K F N he (fun p hp => by
    rcases List.mem_cons.mp hp with rfl | hp
    · exact .head _
    · exact .tail _ (sub p hp)) hQ hk
noncomputable def textAt (us : List Int) (i : Nat) : List Int := if isHigh (us.getD i 0) then [65536 + (us.getD i 0 - 55296) * 1024 + (us.getD (i + 1) 0 - 56320)] else if isLow (us.getD i 0) then [] else [us.getD i 0]
noncomputable def textL (us : List Int) (n : Nat) : List Int := (List.range n).flatMap (textAt us)
theorem textL_succ (us : List Int) (n : Nat) : textL us (n + 1) = textL us n ++ textAt us n := by simp [textL, List.range_succ]
theorem textL_len (us : List Int) (n : Nat) : (textL us n).length ≤ n := by
  induction n with
  | zero => simp [textL]
  | succ n ih =>
    rw [textL_succ, List.length_append]
    have : (textAt us n).length ≤ 1 := by unfold textAt; split <;> (try split) <;> simp
    omega
inductive JMa (Fd : Addr) (news : Led) (us : List Int) (U : Addr) (i : Nat) (m₁ : Str → Option Value) (n₁ : Led) : Prop
  | mk : ∀ vs' n', (n₁ = (Fd, listOf vs'.toArray n') :: news) → (IntsAre vs' (textL us i)) → ((∀ j, j < i → okAt us j = true)) → (Kp [Str.ofString "at", Str.ofString "unit", Str.ofString "fault"] (fun y => if y = Str.ofString "found" then some (.ref Fd) else List.lookup y [(Str.ofString "units", .ref U)]) m₁) → JMa Fd news us U i m₁ n₁
noncomputable def PStop (P : Prop) : Prop := P
theorem PStop.out {P : Prop} (h : PStop P) : P := h
theorem con_text (w : World) (news : Led) (U : Addr) (vs : List Value) (us : List Int) (n : Nat) (hU : (U, listOf vs.toArray n) ∈ news) (hi : IntsAre vs us) (hlen : us.length ≤ 100) :
    ConX w 129 [.ref U] 40 300 news (fun k => (∀ i, i < us.length → okAt us i = true) → ∀ l vs' n', IntsAre vs' (textL us us.length) → (∀ p ∈ news, p.1 < l) → k (.ref l) ((l, listOf vs'.toArray n') :: news)) (fun k => (∀ i t, i < us.length → (∀ j, j < i → okAt us j = true) → inR (us.getD i 0) = false → k 57 (.int (us.getD i 0) t) news) ∧ (∀ i t u tp, i < us.length → (∀ j, j < i → okAt us j = true) → inR (us.getD i 0) = true → faultS us i ≠ "" → k 45 (.ref tp) ((tp, tupO [.int (2 * i) t, .str (Str.ofString (faultS us i)) u]) :: news))) := by
  k_with_none
  k_with "exec Raise some none" => (k_here; first   | ((with_reducible show wpAny _ _ (exec (Stmt.Raise (some (Expr.Call (Expr.Name (Str.ofString "BadCode") _) _ _ _)) none _) _) _ _ _); k_dflt (refine Raise57 (by rfl) ?_))   | ((with_reducible show wpAny _ _ (exec (Stmt.Raise (some (Expr.Call (Expr.Name (Str.ofString "BadEncoding") _) _ _ _)) none _) _) _ _ _); k_dflt (refine Raise45 (by rfl) ?_)))
  k_with "XMade" => (k_dflt (refine XMade.intro (by k_asm) (by k_asm) (by k_asm) (by k_mem) ?_))
  k_with "call ref" => (k_here; k_dflt (refine' Con.use ?z12kC ?z12k1 ?z12k2 ?z12k3 ?z12k4 ?z12k5 ?z12kK ?z12kd ?z12ku ?_; (case z12k2 => k_asm); (case z12k4 => k_asm); (case z12kC => first | exact con_is_high _ _ _ _ | exact con_is_low _ _ _ _); (case z12k1 => k_asm); (case z12k3 => k_asm); (case z12k5 => k_asm); (case z12kK => first | exact rfl | assumption); (case z12kd => ktr_room); (case z12ku => ktr_units); intro _ _ _ _; (try dsimp only); (try k_fold)))
  k_with "call ref" => (k_here; k_dflt (refine' Con.use ?z13kC ?z13k1 ?z13k2 ?z13k3 ?z13k4 ?z13k5 ?z13kK ?z13kd ?z13ku ?_; (case z13k2 => k_asm); (case z13k4 => k_asm); (case z13kC => first | (refine' con_joined _ _ _ _ _ _ ?z13b1 ?z13b2 ?z13b3 ?z13b4; (case z13b1 => omega); (case z13b2 => omega); (case z13b3 => omega); (case z13b4 => omega)) | (refine' con_fault _ _ _ _ _ _ _ _ ?z13b1 ?z13b2 ?z13b3 ?z13b4; (case z13b1 => k_mem); (case z13b2 => assumption); (case z13b3 => omega); (case z13b4 => omega))); (case z13k1 => k_asm); (case z13k3 => k_asm); (case z13k5 => k_asm); (case z13kK => first | exact rfl | assumption); (case z13kd => ktr_room); (case z13ku => ktr_units); intro _ _ _ _ _; (try dsimp only); (try k_fold)))
  k_with "call ref" => (k_here; k_dflt (refine' Con.use ?z14kC ?z14k1 ?z14k2 ?z14k3 ?z14k4 ?z14k5 ?z14kK ?z14kd ?z14ku ?_; (case z14k2 => k_asm); (case z14k4 => k_asm); (case z14kC => first | exact con_make57 _ _ _ | exact con_make45 _ _ _); (case z14k1 => k_asm); (case z14k3 => k_asm); (case z14k5 => k_asm); (case z14kK => first | exact rfl | assumption); (case z14kd => ktr_room); (case z14ku => ktr_units); intro _ _ _ _ _ _ _ _ _; (try dsimp only); (try k_fold)))
  k_with_none
  k_with "exec Raise some none" => (k_here; first   | ((with_reducible show wpAny _ _ (exec (Stmt.Raise (some (Expr.Call (Expr.Name (Str.ofString "BadCode") _) _ _ _)) none _) _) _ _ _); k_dflt (refine Raise57 (by rfl) ?_))   | ((with_reducible show wpAny _ _ (exec (Stmt.Raise (some (Expr.Call (Expr.Name (Str.ofString "BadEncoding") _) _ _ _)) none _) _) _ _ _); k_dflt (refine Raise45 (by rfl) ?_)))
  k_with "XMade" => (k_dflt (refine XMade.intro (by k_asm) (by k_asm) (by k_asm) (by k_mem) ?_))
  k_with "call ref" => (k_here; k_dflt (refine' Con.use ?z12kC ?z12k1 ?z12k2 ?z12k3 ?z12k4 ?z12k5 ?z12kK ?z12kd ?z12ku ?_; (case z12k2 => k_asm); (case z12k4 => k_asm); (case z12kC => first | exact con_is_high _ _ _ _ | exact con_is_low _ _ _ _); (case z12k1 => k_asm); (case z12k3 => k_asm); (case z12k5 => k_asm); (case z12kK => first | exact rfl | assumption); (case z12kd => ktr_room); (case z12ku => ktr_units); intro _ _ _ _; (try dsimp only); (try k_fold)))
  k_with "call ref" => (k_here; k_dflt (refine' Con.use ?z13kC ?z13k1 ?z13k2 ?z13k3 ?z13k4 ?z13k5 ?z13kK ?z13kd ?z13ku ?_; (case z13k2 => k_asm); (case z13k4 => k_asm); (case z13kC => first | (refine' con_joined _ _ _ _ _ _ ?z13b1 ?z13b2 ?z13b3 ?z13b4; (case z13b1 => omega); (case z13b2 => omega); (case z13b3 => omega); (case z13b4 => omega)) | (refine' con_fault _ _ _ _ _ _ _ _ ?z13b1 ?z13b2 ?z13b3 ?z13b4; (case z13b1 => k_mem); (case z13b2 => assumption); (case z13b3 => omega); (case z13b4 => omega))); (case z13k1 => k_asm); (case z13k3 => k_asm); (case z13k5 => k_asm); (case z13kK => first | exact rfl | assumption); (case z13kd => ktr_room); (case z13ku => ktr_units); intro _ _ _ _ _; (try dsimp only); (try k_fold)))
  k_with "call ref" => (k_here; k_dflt (refine' Con.use ?z14kC ?z14k1 ?z14k2 ?z14k3 ?z14k4 ?z14k5 ?z14kK ?z14kd ?z14ku ?_; (case z14k2 => k_asm); (case z14k4 => k_asm); (case z14kC => first | exact con_make57 _ _ _ | exact con_make45 _ _ _); (case z14k1 => k_asm); (case z14k3 => k_asm); (case z14k5 => k_asm); (case z14kK => first | exact rfl | assumption); (case z14kd => ktr_room); (case z14ku => ktr_units); intro _ _ _ _ _ _ _ _ _; (try dsimp only); (try k_fold)))
  unfold ConX
  intro loose mean mg mb dp un gd cn cs a ccd cl outer A₀ base h₀ L m s Q E B F X N T hk hdp hun hret herr
  refine wpAny_call ?_
  k_dflt (refine' code_def ?k1 ?k2 ?k3 ?k4 ?k5 ?kA ?kF ?kK ?k6 ?k7 ?k8 ?k9 ?kB ?_ ?c2 ?c3 ?c4 ?c5; (case kA => exact rfl); (case kF => exact rfl); (case kK => assumption); (case k1 => k_asm); (case k2 => k_asm); (case k3 => k_asm); (case k4 => k_asm); (case k5 => k_asm); (case k6 => k_is); (case k7 => k_is); (case k8 => ktr_room); (case k9 => first | exact BindsTo.of_eq rfl | exact binds_K (by k_in) rfl (by k_is) rfl rfl rfl); (case c5 => decide); (case kB => exact locs rfl); (case c2 => exact rfl); (case c3 => exact rfl); (case c4 => exact rfl); k_whole; intro g' L' h' FG' F' N' B' X' T'; (try dsimp only); (try k_fold))
  refine enter_nmX ?_
  intro q0 hq0
  refine nameAEX ?_
  intro Av Ev Xv
  replace F' : Fr g' L' h' (fun y => List.lookup y [(Str.ofString "units", .ref U)]) := fr_eq F' (by rfl)
  try generalize s.toks + List.length _ = tk0
  have hvl : vs.length = us.length := IntsAre.length hi
  k_with "exec For Tuple Call cons nil" => (k_dflt ((rename Fr _ _ _ _ => lF9); (with_unfolding_all refine' For_turns lF9 ?_; k_whole)))
  k_steps
  rename ∀ p ∈ news, p.1 < _ => hlt9
  rename_i Fd _ _ _ _ _ _ _
  k_dflt (refine for_enum (by rfl) (by k_asm) (by k_asm) (by k_mem) (JMa Fd news us U) ⟨[], 0, rfl, .nil, (fun _ h => nomatch h), .refl⟩ ?turn ?fin)
  case turn =>
    intro i v t TT m₁ n₁ own h9 tk9 hv hT hJ hoff hw hown F9 N9
    obtain ⟨vs', n', rfl, hvs, hall, hkp⟩ := hJ
    obtain ⟨c1, c2, c3, rfl⟩ := hkp.shape3
    obtain ⟨hlt, tv, rfl⟩ := ints_item hi hv
    obtain ⟨rest, hrest⟩ : ∃ r, r = news ++ own := ⟨_, rfl⟩
    rw [List.cons_append, ← hrest] at N9
    have hU9 : (U, listOf vs.toArray n) ∈ rest := hrest ▸ List.mem_append_left _ hU
    have hFd : ∀ p ∈ rest, p.1 ≠ Fd := hrest ▸ fd_enum hlt9 hoff hown hU
    have hvl9 : vs'.length ≤ 100 := by
      have := textL_len us i
      have h2 : vs'.length = (textL us i).length := IntsAre.length hvs
      omega
    k_with "subscriptTail" => ((with_reducible show wpAny _ _ (subscriptTail _ _ (Value.ref _) (Value.int (_ + 1) _)) _ _ _); k_dflt (refine PStop.out ?_))
    k_steps
    all_goals (try simp only [fault_bne, decide_eq_true_eq, decide_eq_false_iff_not, Classical.not_not] at *)
    all_goals subst hrest
    · rename ¬ faultS us i = "" => hf9
      refine leave_make1 (keep := news) (by k_asm) (by k_asm) (by k_asm) (by assumption) (fun p hp => .tail _ (List.mem_append_left _ hp)) fun h' R' U' => ?_
      exact herr.2 i _ _ _ hlt hall (by simp only [inR, Bool.and_eq_true, decide_eq_true_eq]; exact ⟨‹_›, ‹_›⟩) hf9 _ _ _ _ _ _ R' FG' U'
    · rename faultS us i = "" => hf9
      rename isHigh _ = true => hh9
      obtain ⟨hl1, hlow⟩ := fault_high hf9 hh9
      obtain ⟨hb1, hb2⟩ := high_bounds hh9
      have hb3 : 56320 ≤ us.getD ((i : Int) + 1).toNat 0 ∧ us.getD ((i : Int) + 1).toNat 0 ≤ 57343 := by rw [tn2]; exact low_bounds hlow
      unfold PStop
      k_with_none
      k_with "exec Raise some none" => (k_here; first   | ((with_reducible show wpAny _ _ (exec (Stmt.Raise (some (Expr.Call (Expr.Name (Str.ofString "BadCode") _) _ _ _)) none _) _) _ _ _); k_dflt (refine Raise57 (by rfl) ?_))   | ((with_reducible show wpAny _ _ (exec (Stmt.Raise (some (Expr.Call (Expr.Name (Str.ofString "BadEncoding") _) _ _ _)) none _) _) _ _ _); k_dflt (refine Raise45 (by rfl) ?_)))
      k_with "XMade" => (k_dflt (refine XMade.intro (by k_asm) (by k_asm) (by k_asm) (by k_mem) ?_))
      k_with "call ref" => (k_here; k_dflt (refine' Con.use ?z12kC ?z12k1 ?z12k2 ?z12k3 ?z12k4 ?z12k5 ?z12kK ?z12kd ?z12ku ?_; (case z12k2 => k_asm); (case z12k4 => k_asm); (case z12kC => first | exact con_is_high _ _ _ _ | exact con_is_low _ _ _ _); (case z12k1 => k_asm); (case z12k3 => k_asm); (case z12k5 => k_asm); (case z12kK => first | exact rfl | assumption); (case z12kd => ktr_room); (case z12ku => ktr_units); intro _ _ _ _; (try dsimp only); (try k_fold)))
      k_with "call ref" => (k_here; k_dflt (refine' Con.use ?z13kC ?z13k1 ?z13k2 ?z13k3 ?z13k4 ?z13k5 ?z13kK ?z13kd ?z13ku ?_; (case z13k2 => k_asm); (case z13k4 => k_asm); (case z13kC => first | (refine' con_joined _ _ _ _ _ _ ?z13b1 ?z13b2 ?z13b3 ?z13b4; (case z13b1 => omega); (case z13b2 => omega); (case z13b3 => omega); (case z13b4 => omega)) | (refine' con_fault _ _ _ _ _ _ _ _ ?z13b1 ?z13b2 ?z13b3 ?z13b4; (case z13b1 => k_mem); (case z13b2 => assumption); (case z13b3 => omega); (case z13b4 => omega))); (case z13k1 => k_asm); (case z13k3 => k_asm); (case z13k5 => k_asm); (case z13kK => first | exact rfl | assumption); (case z13kd => ktr_room); (case z13ku => ktr_units); intro _ _ _ _ _; (try dsimp only); (try k_fold)))
      k_with "call ref" => (k_here; k_dflt (refine' Con.use ?z14kC ?z14k1 ?z14k2 ?z14k3 ?z14k4 ?z14k5 ?z14kK ?z14kd ?z14ku ?_; (case z14k2 => k_asm); (case z14k4 => k_asm); (case z14kC => first | exact con_make57 _ _ _ | exact con_make45 _ _ _); (case z14k1 => k_asm); (case z14k3 => k_asm); (case z14k5 => k_asm); (case z14kK => first | exact rfl | assumption); (case z14kd => ktr_room); (case z14ku => ktr_units); intro _ _ _ _ _ _ _ _ _; (try dsimp only); (try k_fold)))
      k_steps
      rename News _ _ _ ((Fd, _) :: _) => N99
      simp only [List.push_toArray] at N99
      refine TurnEnd.intro (n' := (Fd, _) :: news) (by k_asm) (by k_asm) (off_re hoff) ⟨_, _, rfl, ?_, all_snoc hall (ok_of ‹_› ‹_› hf9), by walk_at "kp"⟩
      rw [textL_succ, textAt, if_pos hh9]
      exact ints_snoc hvs _ _
    · rename isHigh _ = false => hh9
      rename isLow _ = true => hl9
      refine TurnEnd.intro (n' := (Fd, _) :: news) (by k_asm) (by k_asm) (off_re hoff) ⟨_, _, rfl, ?_, all_snoc hall (ok_of ‹_› ‹_› ‹_›), by walk_at "kp"⟩
      rw [textL_succ, textAt, if_neg (by rw [hh9]; decide), if_pos hl9, List.append_nil]
      exact hvs
    · rename isHigh _ = false => hh9
      rename isLow _ = false => hl9
      rename News _ _ _ ((Fd, _) :: _) => N99
      simp only [List.push_toArray] at N99
      refine TurnEnd.intro (n' := (Fd, _) :: news) (by k_asm) (by k_asm) (off_re hoff) ⟨_, _, rfl, ?_, all_snoc hall (ok_of ‹_› ‹_› ‹_›), by walk_at "kp"⟩
      rw [textL_succ, textAt, if_neg (by rw [hh9]; decide), if_neg (by rw [hl9]; decide)]
      exact ints_snoc hvs _ _
    all_goals refine leave_make (keep := news) (by k_asm) (by k_asm) (by k_asm) (by assumption) (fun p hp => .tail _ (List.mem_append_left _ hp)) fun h' R' U' => ?_
    all_goals refine herr.1 i _ hlt hall ?_ _ _ _ _ _ _ R' FG' U'
    all_goals (rw [inR, Bool.and_eq_false_iff, decide_eq_false_iff_not, decide_eq_false_iff_not]; first | exact .inr ‹_› | exact .inl ‹_›)
  case fin =>
    rintro m₁ n₁ h9 tk9 ⟨vs', n', rfl, hvs, hall, hkp⟩ F9 N9
    obtain ⟨c1, c2, c3, rfl⟩ := hkp.shape3
    rw [hvl] at hvs hall
    k_steps
    exact hret hall _ _ _ hvs hlt9 _ _ (by k_asm) (by k_asm)
-- PR
section
variable {prog : Program} {w : World} {A : Around} {E : Value → Shared → Prop} {s : Shared}
theorem extend_bytes {R : Result → Shared → Prop} (hh : A.handled = none) (x : Array UInt8) (t : Tok) (S : Addr) (res : Value) (c₀ : Nat) (hS : s.heap.get? S = some { cls := .type "list", data := .seq #[] c₀ })
    (hR : ∀ h' tk acc' c', (∀ b o, b ≠ S → s.heap.get? b = some o → h'.get? b = some o) → h'.get? S = some { cls := .type "list", dict := none, data := .seq acc' c', slots := #[] } →
      ItemsOf (fun i v => ∃ c u, x[i]? = some c ∧ v = .int (c.toNat : Int) u) acc' x.size → R (.ok (.ret res)) { s with heap := h', toks := tk }) (hn : x.size ≤ sizeLine) :
    wpAny (model prog w) A.in1 (Builtin.List.listExtendWith (.ref S) (.bytes x t) res)
      (fun fin s' => match fin with | .done f => R (.ok f) s' | .again c' => c'.quiet = true ∧ codeAny (model prog w) A c' R s') (fun e s' => R (.error e) s') s := by
  have hSI : S ≠ s.heap.objs.size := Nat.ne_of_lt (Heap.lt_size hS)
  have hSf : S ∉ [s.heap.objs.size] := fun hm => hSI (List.mem_singleton.mp hm)
  unfold Builtin.List.listExtendWith
  refine wpAny_bind (wpAny_typeOf (T := "bytes") (v := .bytes x t) rfl ?_)
  have h1 : Builtin.List.listSameRef (.ref S) (.bytes x t) = false := rfl
  have h2 : (Value.type "bytes" == Value.type "list") = false := by decide
  have h3 : (Value.type "bytes" == Value.type "tuple") = false := by decide
  simp only [h1, h2, h3, Bool.or_false, Bool.false_eq_true, if_false]
  refine wpAny_bind (KBw.pyIter_bytes ?_)
  refine wpAny_bind (wpAny_holding ?_)
  unfold Builtin.List.listLengthHint
  refine wpAny_bind (wpAny_specialOf (T := "bytes") (v := .bytes x t) rfl FB.slot_bytes_len.lookup ?_)
  wp_delta
  refine wpAny_bind (wpAny_isInstance (T := "bytes") (v := .bytes x t) (b := true) rfl (by rw [isSubtype_type]; kernel_rfl) ?_)
  show wpAny _ _ (typeOf (Value.bytes x t) >>= _) _ _ _
  refine wpAny_bind (wpAny_typeOf (T := "bytes") (v := .bytes x t) rfl ?_)
  refine wpAny_pure ?_
  rw [if_neg (by decide)]
  refine wpAny_pure ⟨plainId_quiet F.plain_extend_loop _, codeAny_extend_loopS (KBw.walks (A := A.in1) hh s.heap.objs.size x t).toS hn _ hSf _ x.size 0 _ _ _ rfl (Nat.zero_le _) ⟨_, Heap.get?_push_size _ rfl, rfl, rfl⟩ (Heap.get?_push_of_some _ hS) (ItemsOf.nil _) fun s' acc' c' hm hS' hacc => ?_⟩
  rw [Moved.eq_with hm]
  refine hR s'.heap s'.toks acc' c' (fun b ob hb e => hm.heap b ob (fun hmem => ?_) (Heap.get?_push_of_some _ e)) hS' hacc
  rcases List.mem_cons.mp hmem with e' | hmem
  · exact hb e'
  · exact absurd (Heap.lt_size e) (by rw [List.mem_singleton.mp hmem]; exact Nat.lt_irrefl _)
theorem init_bytes {R : Result → Shared → Prop} (hh : A.handled = none) (x : Array UInt8) (t : Tok) (S : Addr) (hS : s.heap.get? S = some { cls := .type "list", data := .seq #[] })
    (hR : ∀ h' tk acc' c', (∀ b o, b ≠ S → s.heap.get? b = some o → h'.get? b = some o) → h'.get? S = some { cls := .type "list", dict := none, data := .seq acc' c', slots := #[] } →
      ItemsOf (fun i v => ∃ c u, x[i]? = some c ∧ v = .int (c.toNat : Int) u) acc' x.size → R (.ok (.ret .none)) { s with heap := h', toks := tk }) (hn : x.size ≤ sizeLine) :
    wpAny (model prog w) A.in1 (Builtin.«list.__init__» ⟨[.ref S, .bytes x t], []⟩)
      (fun fin s' => match fin with | .done f => R (.ok f) s' | .again c' => c'.quiet = true ∧ codeAny (model prog w) A c' R s') (fun e s' => R (.error e) s') s := by
  show wpAny _ _ (do let old ← Builtin.List.listItems (.ref S); Builtin.List.listUpdate (.ref S) (fun _ => #[]); letGo old.toList.reverse; Builtin.List.listExtendWith (.ref S) (.bytes x t) .none) _ _ s
  refine wpAny_bind ?_
  unfold Builtin.List.listItems
  refine wpAny_bind (wpAny_seqItems hS rfl (wpAny_pure ?_))
  show wpAny _ _ (updateSeq S (fun _ => #[]) >>= fun _ => letGo (#[] : Array Value).toList.reverse >>= fun _ => Builtin.List.listExtendWith (.ref S) (.bytes x t) .none) _ _ s
  refine wpAny_bind (wpAny_updateSeq hS rfl ?_)
  have hS₂ := Heap.get?_update_self (Obj.mapSeq (fun _ => (#[] : Array Value))) hS rfl
  have oth : ∀ b o, b ≠ S → s.heap.get? b = some o → (s.heap.update S (Obj.mapSeq (fun _ => (#[] : Array Value)))).get? b = some o :=
    fun b o hb e => (Heap.get?_update_other _ _ (Ne.symm hb)).trans e
  refine wpAny_bind (wpAny_letGo ?_)
  refine extend_bytes (hn := hn) hh x t S .none _ hS₂ fun h' tk acc' c' hk hS' hacc => ?_
  exact hR h' tk acc' c' (fun b o hb e => hk b o hb (oth b o hb e)) hS' hacc
theorem ints_of_get : ∀ (ys : List Value) (ks : List Int), ys.length = ks.length → (∀ (j : Nat) (v : Value), ys[j]? = some v → ∃ k u, ks[j]? = some k ∧ v = .int k u) → IntsAre ys ks
  | [], [], _, _ => .nil
  | [], _ :: _, h, _ => by simp at h
  | _ :: _, [], h, _ => by simp at h
  | y :: ys, d :: ds, h, g => by
    obtain ⟨k, u, e, e2⟩ := g 0 y rfl
    obtain rfl : d = k := Option.some.inj e
    subst e2
    exact .cons _ _ (ints_of_get ys ds (Nat.succ.inj h) fun j v hj => g (j + 1) v hj)
theorem list_bytes {h₀ : Heap} {L : Addr} {m : Str → Option Value} {Q : Value → Shared → Prop} {news : Led} {b : Array UInt8} {t : Tok} {ks : List Int} (hh : A.handled = none) (F : Fr h₀ L s.heap m) (N : News h₀ L s.heap news) (hk : KBw.bInts b = ks) (hn : ks.length ≤ 16777216)
    (h : ∀ D vs c h' tk, IntsAre vs ks → Fr h₀ L h' m → News h₀ L h' ((D, listOf vs.toArray c) :: news) → (∀ q ∈ news, q.1 < D) → Q (.ref D) { s with heap := h', toks := tk }) :
    wpAny (model prog w) A (call (.type "list") [.bytes b t]) Q E s := by
  have hsz : b.size ≤ sizeLine := by rw [← KBw.ints_length b, hk, sizeLine_eq]; exact hn
  refine callType_codes (Q₁ := fun obj s₁ => obj = .ref s.heap.objs.size ∧ s₁ = { s with heap := s.heap.push { cls := .type "list", data := .seq #[] } }) PySem.F.called_list (PySem.F.typeCall_list_1 _) PySem.F.entry_list_init
    (code_list_new _ ⟨rfl, rfl⟩) fun obj s₁ h₁ => ?_
  obtain ⟨rfl, rfl⟩ := h₁
  have hS : (s.heap.push { cls := .type "list", data := .seq #[] }).get? s.heap.objs.size = some { cls := .type "list", data := .seq #[] } := Heap.get?_push_size _ rfl
  refine ⟨⟨_, hS, rfl⟩, PySem.F.args_list_init_2 _ _, init_bytes (A := A.in1) hh b t _ hS (hn := hsz) fun h' tk acc' c' hk' hS' hacc => ?_⟩
  have keep : ∀ a o, s.heap.get? a = some o → h'.get? a = some o := fun a o e => hk' a o (Nat.ne_of_lt (Heap.lt_size e)) (Heap.get?_push_of_some _ e)
  refine ⟨rfl, h s.heap.objs.size acc'.toList c' h' tk (ints_of_get _ _ (by rw [Array.length_toList, hacc.1, ← KBw.ints_length b, hk]) fun j v hv => ?_) (F.keeps keep) (fun q hq => ?_) (fun q hq => Heap.lt_size (N q hq).1)⟩
  · obtain ⟨c, u, hc, rfl⟩ := hacc.2 j v (by simpa using hv)
    exact ⟨_, u, hk ▸ KBw.ints_get hc, rfl⟩
  · rcases List.mem_cons.mp hq with rfl | hq
    · refine ⟨by simpa using hS', Nat.ne_of_gt F.ns.lt, Heap.get?_none_of_le (Nat.le_trans F.above (Nat.le_of_lt F.ns.lt))⟩
    · exact ⟨keep _ _ (N q hq).1, (N q hq).2⟩
end
-- PQ
example : True := by w_top off; k_with_none; trivial
theorem len4 : ∀ {ks : List Int} {i : Nat}, i + 4 ≤ ks.length → (ks.drop i).take 4 = [ks.getD i 0, ks.getD (i + 1) 0, ks.getD (i + 2) 0, ks.getD (i + 3) 0]
  | [], i, h => by simp at h
  | [_], i, h => by simp at h
  | [_, _], i, h => by simp at h
  | [_, _, _], i, h => by simp at h
  | a :: b :: c :: d :: r, 0, h => by simp
  | a :: b :: c :: d :: r, i + 1, h => by
    have := len4 (ks := b :: c :: d :: r) (i := i) (by simp at h ⊢; omega)
    simpa [List.getD] using this
theorem cut4 {ks : List Int} {i : Nat} {b : Array UInt8} (hk : KBw.bInts b = (ks.drop (min i ks.length)).take (clipAt ks.length ((i : Int) + 4) - min i ks.length)) (h : i + 4 ≤ ks.length) : KBw.bInts b = [ks.getD i 0, ks.getD (i + 1) 0, ks.getD (i + 2) 0, ks.getD (i + 3) 0] := by
  rw [hk]
  have e : ((i : Int) + 4) = ((i + 4 : Nat) : Int) := by push_cast; rfl
  rw [e, clipAt_nat, Nat.min_eq_left h, Nat.min_eq_left (by omega), ← len4 h]
  congr 1; omega
theorem list_bytes4 {prog : Program} {w : World} {A : Around} {E : Value → Shared → Prop} {s : Shared} {h₀ : Heap} {L : Addr} {m : Str → Option Value} {Q : Value → Shared → Prop} {news : Led} {b : Array UInt8} {t : Tok} {a0 a1 a2 a3 : Int} (hh : A.handled = none) (F : Fr h₀ L s.heap m) (N : News h₀ L s.heap news) (hk : KBw.bInts b = [a0, a1, a2, a3])
    (h : ∀ D t0 t1 t2 t3 c h' tk, Fr h₀ L h' m → News h₀ L h' ((D, listOf [Value.int a0 t0, .int a1 t1, .int a2 t2, .int a3 t3].toArray c) :: news) → (∀ q ∈ news, q.1 < D) → Q (.ref D) { s with heap := h', toks := tk }) :
    wpAny (model prog w) A (call (.type "list") [.bytes b t]) Q E s :=
  list_bytes hh F N hk (by simp) fun D vs c h' tk hi F' N' hl => by
    cases hi with
    | cons _ t0 hi => cases hi with
      | cons _ t1 hi => cases hi with
        | cons _ t2 hi => cases hi with
          | cons _ t3 hi => cases hi with
            | nil => exact h D t0 t1 t2 t3 c h' tk F' N' hl
theorem at_in {b : Array UInt8} {ks : List Int} (hk : KBw.bInts b = ks) (j : Nat) : 0 ≤ ks.getD j 0 ∧ ks.getD j 0 < 256 := KBw.getD_in fun k hk' => KBw.ints_in (hk ▸ hk')
theorem bor8 {a b : Int} (ha : 0 ≤ a) (hb : 0 ≤ b) (hk : b < 256) : Builtin.bitOr (a * 2 ^ Int.toNat 8) b = a * 256 + b := bor_add (k := 8) ha hb hk
theorem bor4 {a b c d : Int} (ha : 0 ≤ a) (hb : 0 ≤ b) (hb2 : b < 256) (hc : 0 ≤ c) (hc2 : c < 256) (hd : 0 ≤ d) (hd2 : d < 256) :
    Builtin.bitOr (Builtin.bitOr (Builtin.bitOr (a * 2 ^ Int.toNat 24) (b * 2 ^ Int.toNat 16)) (c * 2 ^ Int.toNat 8)) d = a * 16777216 + b * 65536 + c * 256 + d := by
  have e1 : Builtin.bitOr (a * 2 ^ Int.toNat 24) (b * 2 ^ Int.toNat 16) = a * 2 ^ 24 + b * 2 ^ 16 := bor_add (k := 24) ha (Int.mul_nonneg hb (by decide)) (by show b * 65536 < 16777216; omega)
  have e2 : Builtin.bitOr (a * 2 ^ 24 + b * 2 ^ 16) (c * 2 ^ Int.toNat 8) = a * 2 ^ 24 + b * 2 ^ 16 + c * 2 ^ 8 := by
    have := bor_add (a := a * 256 + b) (b := c * 256) (k := 16) (by omega) (by omega) (by show c * 256 < 65536; omega)
    have e : (a * 256 + b) * 2 ^ 16 = a * 2 ^ 24 + b * 2 ^ 16 := by omega
    rw [e] at this
    exact this
  have e3 : Builtin.bitOr (a * 2 ^ 24 + b * 2 ^ 16 + c * 2 ^ 8) d = a * 2 ^ 24 + b * 2 ^ 16 + c * 2 ^ 8 + d := by
    have := bor_add (a := a * 65536 + b * 256 + c) (b := d) (k := 8) (by omega) (by omega) (by show d < 256; omega)
    have e : (a * 65536 + b * 256 + c) * 2 ^ 8 = a * 2 ^ 24 + b * 2 ^ 16 + c * 2 ^ 8 := by omega
    rw [e] at this
    exact this
  rw [e1, e2, e3]; rfl
theorem sub_2 {a y : Addr × Obj} {c : Led} : ∀ p ∈ a :: c, p ∈ a :: y :: c := fun p hp => by
  simp only [List.mem_cons] at hp ⊢
  rcases hp with h | h
  · exact .inl h
  · exact .inr (.inr h)
theorem news_code {h₀ h : Heap} {L D : Addr} {c c' : Int} {t : Tok} {u v : Value} {rest : Led} (e : c = c') (N : News h₀ L h ((D, tupO [.int c' t, u, v]) :: rest)) : News h₀ L h ((D, tupO [.int c t, u, v]) :: rest) := e ▸ N
noncomputable def codeAt (ks : List Int) (i : Nat) (b : Bool) : Int := if b then ks.getD i 0 * 16777216 + ks.getD (i + 1) 0 * 65536 + ks.getD (i + 2) 0 * 256 + ks.getD (i + 3) 0 else ks.getD (i + 3) 0 * 16777216 + ks.getD (i + 2) 0 * 65536 + ks.getD (i + 1) 0 * 256 + ks.getD i 0
theorem con_unit_be (w : World) (news : Led) (b : Array UInt8) (ks : List Int) (t u v : Tok) (hb : KBw.bInts b = ks) (hlen : ks.length = 3) :
    Con w 162 [.bytes b t, .int 1 u, .str (Str.ofString "be") v] 8 100 news (fun k => ∀ t, k (.int (ks.getD 1 0 * 256 + ks.getD 2 0) t) news) := by
  k_with_none
  k_with "call type:list" => (k_here; (with_reducible show wpAny _ _ (call (Value.type "list") [Value.bytes _ _]) _ _ _); k_dflt (refine' list_bytes4 (by rfl) ?z15k1 ?z15k2 ?z15kk ?_; (case z15k1 => k_asm); (case z15k2 => k_asm); (case z15kk => exact cut4 (by assumption) (by omega)); k_whole; intro _ _ _ _ _ _ _ _ _ _ _; (try dsimp only); (try k_fold)))
  k_with_none
  k_with "call type:list" => (k_here; (with_reducible show wpAny _ _ (call (Value.type "list") [Value.bytes _ _]) _ _ _); k_dflt (refine' list_bytes4 (by rfl) ?z15k1 ?z15k2 ?z15kk ?_; (case z15k1 => k_asm); (case z15k2 => k_asm); (case z15kk => exact cut4 (by assumption) (by omega)); k_whole; intro _ _ _ _ _ _ _ _ _ _ _; (try dsimp only); (try k_fold)))
  refine' Con.enter [(Str.ofString "octets", .bytes b t), (Str.ofString "at", .int 1 u), (Str.ofString "order", .str (Str.ofString "be") v)] [(Str.ofString "order", .str (Str.ofString "be") v), (Str.ofString "at", .int 1 u), (Str.ofString "octets", .bytes b t)] 7 97 rfl ?k6 ?k7 ?kd ?ku ?k9 ?kB ?_ ?c2 ?c3 ?c4 ?c5
  case k6 => k_is
  case k7 => k_is
  case kd => decide
  case ku => decide
  case k9 => intro s9 X9; first | exact BindsTo.of_eq rfl | exact binds_K (by k_in) rfl (by k_is) rfl rfl rfl
  case c5 => decide
  case kB => exact locs rfl
  case c2 => exact rfl
  case c3 => exact rfl
  case c4 => exact rfl
  intro loose mean mg mb dp un gd outer A₀ base g' h' L' q0 gg dd oo tk0 k0 B' X' T' hdp hun F' N' hret lv
  refine nameAE ?_
  intro Av Ev
  k_steps
  have h1 := at_in hb 1
  have h2 := at_in hb 2
  refine retI lv hret (bor8 ?_ ?_ ?_) (by k_asm) (by k_asm)
  all_goals first | exact h1.1 | exact h2.1 | exact h1.2 | exact h2.2
theorem con_unit_le (w : World) (news : Led) (b : Array UInt8) (ks : List Int) (t u v : Tok) (hb : KBw.bInts b = ks) (hlen : ks.length = 3) :
    Con w 162 [.bytes b t, .int 1 u, .str (Str.ofString "le") v] 8 100 news (fun k => ∀ t, k (.int (ks.getD 2 0 * 256 + ks.getD 1 0) t) news) := by
  k_with_none
  k_with "call type:list" => (k_here; (with_reducible show wpAny _ _ (call (Value.type "list") [Value.bytes _ _]) _ _ _); k_dflt (refine' list_bytes4 (by rfl) ?z15k1 ?z15k2 ?z15kk ?_; (case z15k1 => k_asm); (case z15k2 => k_asm); (case z15kk => exact cut4 (by assumption) (by omega)); k_whole; intro _ _ _ _ _ _ _ _ _ _ _; (try dsimp only); (try k_fold)))
  k_with_none
  k_with "call type:list" => (k_here; (with_reducible show wpAny _ _ (call (Value.type "list") [Value.bytes _ _]) _ _ _); k_dflt (refine' list_bytes4 (by rfl) ?z15k1 ?z15k2 ?z15kk ?_; (case z15k1 => k_asm); (case z15k2 => k_asm); (case z15kk => exact cut4 (by assumption) (by omega)); k_whole; intro _ _ _ _ _ _ _ _ _ _ _; (try dsimp only); (try k_fold)))
  refine' Con.enter [(Str.ofString "octets", .bytes b t), (Str.ofString "at", .int 1 u), (Str.ofString "order", .str (Str.ofString "le") v)] [(Str.ofString "order", .str (Str.ofString "le") v), (Str.ofString "at", .int 1 u), (Str.ofString "octets", .bytes b t)] 7 97 rfl ?k6 ?k7 ?kd ?ku ?k9 ?kB ?_ ?c2 ?c3 ?c4 ?c5
  case k6 => k_is
  case k7 => k_is
  case kd => decide
  case ku => decide
  case k9 => intro s9 X9; first | exact BindsTo.of_eq rfl | exact binds_K (by k_in) rfl (by k_is) rfl rfl rfl
  case c5 => decide
  case kB => exact locs rfl
  case c2 => exact rfl
  case c3 => exact rfl
  case c4 => exact rfl
  intro loose mean mg mb dp un gd outer A₀ base g' h' L' q0 gg dd oo tk0 k0 B' X' T' hdp hun F' N' hret lv
  refine nameAE ?_
  intro Av Ev
  k_steps
  have h1 := at_in hb 1
  have h2 := at_in hb 2
  refine retI lv hret (bor8 ?_ ?_ ?_) (by k_asm) (by k_asm)
  all_goals first | exact h1.1 | exact h2.1 | exact h1.2 | exact h2.2
noncomputable def QStop (P : Prop) : Prop := P
theorem QStop.go {P : Prop} (h : QStop P) : P := h
inductive StepR (g : Heap) (L' : Addr) (m : Str → Option Value) (news : Led) (D : Addr) (c : Int) (s : Shared) (f : Flow) (s' : Shared) : Prop
  | mk : ∀ h tk a0 a1 a2 a3 t0 t1 t2 t3 n, f = .next → s' = { s with heap := h, toks := tk } → Fr g L' h m → News g L' h ((D, listOf [Value.int a0 t0, .int a1 t1, .int a2 t2, .int a3 t3].toArray n) :: news) → c = a0 * 16777216 + a1 * 65536 + a2 * 256 + a3 → 0 ≤ a0 → a0 < 256 → 0 ≤ a1 → a1 < 256 → 0 ≤ a2 → a2 < 256 → 0 ≤ a3 → a3 < 256 → StepR g L' m news D c s f s'
theorem step_cut {M : Model} {A : Around} {t : Sem Flow} {Q : Flow → Shared → Prop} {E : Value → Shared → Prop} {s : Shared} {g : Heap} {L D : Addr} {m : Str → Option Value} {news : Led} {o : Obj} {c : Int} (F : Fr g L s.heap m) (N : News g L s.heap ((D, o) :: news)) (h : wpAny M A t (StepR g L m news D c s) E s) (k : ∀ f s', StepR g L m news D c s f s' → Q f s') : wpAny M A t Q E s := wpAny_mono h k fun _ _ x => x
theorem con_step (w : World) (news : Led) (b : Array UInt8) (i : Nat) (t u v : Tok) (ks : List Int) (bo : Bool) (hb : KBw.bInts b = ks) (hi : i + 4 ≤ ks.length) (hlen : ks.length ≤ 100) :
    Con w 169 [.bytes b t, .int (i : Int) u, .str (Str.ofString (ordS bo)) v] 30 300 news (fun k => (isScal (codeAt ks i bo) = true → ∀ tp t u v, (∀ p ∈ news, p.1 < tp) → k (.ref tp) ((tp, tupO [.int (codeAt ks i bo) t, .int (i + 4) u, .str (Str.ofString "") v]) :: news)) ∧ (isScal (codeAt ks i bo) = false → ∀ tp w u v, (∀ p ∈ news, p.1 < tp) → k (.ref tp) ((tp, tupO [.none, .int (i + 4) u, .str w v]) :: news))) := by
  k_with_none
  k_with "call type:list" => (k_here; (with_reducible show wpAny _ _ (call (Value.type "list") [Value.bytes _ _]) _ _ _); k_dflt (refine' list_bytes4 (by rfl) ?z15k1 ?z15k2 ?z15kk ?_; (case z15k1 => k_asm); (case z15k2 => k_asm); (case z15kk => exact cut4 (by assumption) (by omega)); k_whole; intro _ _ _ _ _ _ _ _ _ _ _; (try dsimp only); (try k_fold)))
  k_with "call ref" => (k_here; k_dflt (refine' Con.use ?z16kC ?z16k1 ?z16k2 ?z16k3 ?z16k4 ?z16k5 ?z16kK ?z16kd ?z16ku ?_; (case z16k2 => k_asm); (case z16k4 => k_asm); (case z16kC => first | exact con_is_scalar _ _ _ _ | exact con_is_sur _ _ _ _); (case z16k1 => k_asm); (case z16k3 => k_asm); (case z16k5 => k_asm); (case z16kK => first | exact rfl | assumption); (case z16kd => ktr_room); (case z16ku => ktr_units); intro _ _ _ _; (try dsimp only); (try k_fold)))
  k_with_none
  k_with "call type:list" => (k_here; (with_reducible show wpAny _ _ (call (Value.type "list") [Value.bytes _ _]) _ _ _); k_dflt (refine' list_bytes4 (by rfl) ?z15k1 ?z15k2 ?z15kk ?_; (case z15k1 => k_asm); (case z15k2 => k_asm); (case z15kk => exact cut4 (by assumption) (by omega)); k_whole; intro _ _ _ _ _ _ _ _ _ _ _; (try dsimp only); (try k_fold)))
  k_with "call ref" => (k_here; k_dflt (refine' Con.use ?z16kC ?z16k1 ?z16k2 ?z16k3 ?z16k4 ?z16k5 ?z16kK ?z16kd ?z16ku ?_; (case z16k2 => k_asm); (case z16k4 => k_asm); (case z16kC => first | exact con_is_scalar _ _ _ _ | exact con_is_sur _ _ _ _); (case z16k1 => k_asm); (case z16k3 => k_asm); (case z16k5 => k_asm); (case z16kK => first | exact rfl | assumption); (case z16kd => ktr_room); (case z16ku => ktr_units); intro _ _ _ _; (try dsimp only); (try k_fold)))
  k_with "exec If Compare cons nil" => (k_dflt (with_reducible show wpAny _ _ (exec (Stmt.If (Expr.Compare _ [CmpOp.NotEq] _ _) _ _ _) _) _ _ _); k_dflt (refine QStop.go ?_))
  refine' Con.enter [(Str.ofString "octets", .bytes b t), (Str.ofString "at", .int (i : Int) u), (Str.ofString "order", .str (Str.ofString (ordS bo)) v)] [(Str.ofString "order", .str (Str.ofString (ordS bo)) v), (Str.ofString "at", .int (i : Int) u), (Str.ofString "octets", .bytes b t)] 29 297 rfl ?k6 ?k7 ?kd ?ku ?k9 ?kB ?_ ?c2 ?c3 ?c4 ?c5
  case k6 => k_is
  case k7 => k_is
  case kd => decide
  case ku => decide
  case k9 => intro s9 X9; first | exact BindsTo.of_eq rfl | exact binds_K (by k_in) rfl (by k_is) rfl rfl rfl
  case c5 => decide
  case kB => exact locs rfl
  case c2 => exact rfl
  case c3 => exact rfl
  case c4 => exact rfl
  intro loose mean mg mb dp un gd outer A₀ base g' h' L' q0 gg dd oo tk0 k0 B' X' T' hdp hun F' N' hret lv
  refine nameAE ?_
  intro Av Ev
  obtain ⟨h0, h0'⟩ := at_in hb i
  obtain ⟨h1, h1'⟩ := at_in hb (i + 1)
  obtain ⟨h2, h2'⟩ := at_in hb (i + 2)
  obtain ⟨h3, h3'⟩ := at_in hb (i + 3)
  k_steps
  unfold QStop
  k_with_none
  k_with "call type:list" => (k_here; (with_reducible show wpAny _ _ (call (Value.type "list") [Value.bytes _ _]) _ _ _); k_dflt (refine' list_bytes4 (by rfl) ?z15k1 ?z15k2 ?z15kk ?_; (case z15k1 => k_asm); (case z15k2 => k_asm); (case z15kk => exact cut4 (by assumption) (by omega)); k_whole; intro _ _ _ _ _ _ _ _ _ _ _; (try dsimp only); (try k_fold)))
  k_with "call ref" => (k_here; k_dflt (refine' Con.use ?z16kC ?z16k1 ?z16k2 ?z16k3 ?z16k4 ?z16k5 ?z16kK ?z16kd ?z16ku ?_; (case z16k2 => k_asm); (case z16k4 => k_asm); (case z16kC => first | exact con_is_scalar _ _ _ _ | exact con_is_sur _ _ _ _); (case z16k1 => k_asm); (case z16k3 => k_asm); (case z16k5 => k_asm); (case z16kK => first | exact rfl | assumption); (case z16kd => ktr_room); (case z16ku => ktr_units); intro _ _ _ _; (try dsimp only); (try k_fold)))
  refine step_cut (c := codeAt ks i bo) (by k_asm) (by k_asm) ?first ?rest
  case first =>
    cases bo
    · k_steps
      exact ⟨_, _, _, _, _, _, _, _, _, _, _, rfl, rfl, by k_asm, by k_asm, rfl, by assumption, by assumption, by assumption, by assumption, by assumption, by assumption, by assumption, by assumption⟩
    · k_steps
      exact ⟨_, _, _, _, _, _, _, _, _, _, _, rfl, rfl, by k_asm, by k_asm, rfl, by assumption, by assumption, by assumption, by assumption, by assumption, by assumption, by assumption, by assumption⟩
  case rest =>
    rintro f s' ⟨h9, tk9, a0, a1, a2, a3, t0, t1, t2, t3, n9, rfl, rfl, F9, N9, hc, e0, e0', e1, e1', e2, e2', e3, e3'⟩
    have hcode : codeAt ks i bo = _ := hc.trans (bor4 e0 e1 e1' e2 e2' e3 e3').symm
    k_steps
    · rename isScal _ = true => hs9
      rename _ < _ ∧ _ => hLt
      exact lv.go (hret.1 ((congrArg isScal hcode).trans hs9) _ _ _ _ (fun p hp => tb_ltOf hLt.2 p hp)) (by k_asm) (news_code hcode (news_sub (a := (_, _) :: (_, _) :: _) (by k_asm) sub_2))
    all_goals rename isScal _ = false => hs9
    all_goals rename _ < _ ∧ _ => hLt
    all_goals exact lv.go (hret.2 ((congrArg isScal hcode).trans hs9) _ _ _ _ (fun p hp => tb_ltOf hLt.2 p hp)) (by k_asm) (news_sub (a := (_, _) :: (_, _) :: _) (by k_asm) sub_2)
-- PN
example : True := by w_top off; k_with_none; trivial
noncomputable def orderI : List Int → List Int → Int
  | [], [] => 0
  | [], _ :: _ => -1
  | _ :: _, [] => 1
  | a :: r, b :: s => if a = b then orderI r s else if rankI a < rankI b then -1 else 1
theorem order_pre : ∀ (i : Nat) {x y : List Int}, (∀ j, j < i → x.getD j 0 = y.getD j 0) → i ≤ x.length → i ≤ y.length → orderI x y = orderI (x.drop i) (y.drop i)
  | 0, x, y, _, _, _ => rfl
  | i + 1, [], _, _, h, _ => absurd h (Nat.not_succ_le_zero _)
  | i + 1, _ :: _, [], _, _, h => absurd h (Nat.not_succ_le_zero _)
  | i + 1, a :: r, b :: s, hall, h1, h2 => by
    have h0 : a = b := hall 0 (Nat.zero_lt_succ _)
    rw [orderI, if_pos h0]
    exact order_pre i (fun j hj => hall (j + 1) (Nat.succ_lt_succ hj)) (Nat.le_of_succ_le_succ h1) (Nat.le_of_succ_le_succ h2)
theorem drop_at {x : List Int} {i : Nat} (h : i < x.length) : x.drop i = x.getD i 0 :: x.drop (i + 1) := by
  rw [List.drop_eq_getElem_cons h]; simp [List.getD, h]
theorem order_at {x y : List Int} {i : Nat} (hall : ∀ j, j < i → x.getD j 0 = y.getD j 0) (h1 : i < x.length) (h2 : i < y.length) (hn : x.getD i 0 ≠ y.getD i 0) : orderI x y = if rankI (x.getD i 0) < rankI (y.getD i 0) then -1 else 1 := by
  rw [order_pre i hall (Nat.le_of_lt h1) (Nat.le_of_lt h2), drop_at h1, drop_at h2, orderI, if_neg hn]
theorem order_end {x y : List Int} (hall : ∀ j, j < min x.length y.length → x.getD j 0 = y.getD j 0) : orderI x y = if x.length = y.length then 0 else if x.length < y.length then -1 else 1 := by
  rw [order_pre _ hall (Nat.min_le_left _ _) (Nat.min_le_right _ _)]
  rcases Nat.lt_trichotomy x.length y.length with h | h | h
  · rw [Nat.min_eq_left (Nat.le_of_lt h), List.drop_length, drop_at h, orderI, if_neg (Nat.ne_of_lt h), if_pos h]
  · rw [h, Nat.min_self, ← h, List.drop_length, h, List.drop_length, orderI, if_pos rfl]
  · rw [Nat.min_eq_right (Nat.le_of_lt h), List.drop_length, drop_at h, orderI, if_neg (Nat.ne_of_gt h), if_neg (Nat.not_lt_of_gt h)]
inductive JNb (news : Led) (us1 : List Int) (us2 : List Int) (U2 : Addr) (U1 : Addr) (i : Nat) (m₁ : Str → Option Value) (n₁ : Led) : Prop
  | mk : (n₁ = news) → ((∀ j, j < i → us1.getD j 0 = us2.getD j 0)) → (Kp [Str.ofString "left", Str.ofString "right"] (fun y => List.lookup y [(Str.ofString "other", .ref U2), (Str.ofString "one", .ref U1)]) m₁) → JNb news us1 us2 U2 U1 i m₁ n₁
theorem con_order (w : World) (news : Led) (U1 U2 : Addr) (vs1 vs2 : List Value) (us1 us2 : List Int) (n1 n2 : Nat) (hU1 : (U1, listOf vs1.toArray n1) ∈ news) (hi1 : IntsAre vs1 us1) (hlen1 : us1.length ≤ 100) (hU2 : (U2, listOf vs2.toArray n2) ∈ news) (hi2 : IntsAre vs2 us2) (hlen2 : us2.length ≤ 100) :
    Con w 148 [.ref U1, .ref U2] 40 300 news (fun k => ∀ t, k (.int (orderI us1 us2) t) news) := by
  k_with_none
  k_with "call ref" => (k_here; k_dflt (refine' Con.use ?z17kC ?z17k1 ?z17k2 ?z17k3 ?z17k4 ?z17k5 ?z17kK ?z17kd ?z17ku ?_; (case z17k2 => k_asm); (case z17k4 => k_asm); (case z17kC => first | exact con_rank _ _ _ _); (case z17k1 => k_asm); (case z17k3 => k_asm); (case z17k5 => k_asm); (case z17kK => first | exact rfl | assumption); (case z17kd => ktr_room); (case z17ku => ktr_units); intro _ _ _ _ _; (try dsimp only); (try k_fold)))
  k_with_none
  k_with "call ref" => (k_here; k_dflt (refine' Con.use ?z17kC ?z17k1 ?z17k2 ?z17k3 ?z17k4 ?z17k5 ?z17kK ?z17kd ?z17ku ?_; (case z17k2 => k_asm); (case z17k4 => k_asm); (case z17kC => first | exact con_rank _ _ _ _); (case z17k1 => k_asm); (case z17k3 => k_asm); (case z17k5 => k_asm); (case z17kK => first | exact rfl | assumption); (case z17kd => ktr_room); (case z17ku => ktr_units); intro _ _ _ _ _; (try dsimp only); (try k_fold)))
  refine' Con.enter [(Str.ofString "one", .ref U1), (Str.ofString "other", .ref U2)] [(Str.ofString "other", .ref U2), (Str.ofString "one", .ref U1)] 39 297 rfl ?k6 ?k7 ?kd ?ku ?k9 ?kB ?_ ?c2 ?c3 ?c4 ?c5
  case k6 => k_is
  case k7 => k_is
  case kd => decide
  case ku => decide
  case k9 => intro s9 X9; first | exact BindsTo.of_eq rfl | exact binds_K (by k_in) rfl (by k_is) rfl rfl rfl
  case c5 => decide
  case kB => exact locs rfl
  case c2 => exact rfl
  case c3 => exact rfl
  case c4 => exact rfl
  intro loose mean mg mb dp un gd outer A₀ base g' h' L' q0 gg dd oo tk0 k0 B' X' T' hdp hun F' N' hret lv
  refine nameAE ?_
  intro Av Ev
  have hvl1 : vs1.length = us1.length := IntsAre.length hi1
  have hvl2 : vs2.length = us2.length := IntsAre.length hi2
  k_with "exec For Tuple Call cons nil" => (k_dflt ((rename Fr _ _ _ _ => lF9); (with_unfolding_all refine' For_turns lF9 ?_; k_whole)))
  k_steps
  k_dflt (refine for_zip (by rfl) (by k_asm) (by k_asm) (by k_mem) (by k_mem) (JNb news us1 us2 U2 U1) ⟨rfl, (fun _ h => nomatch h), .refl⟩ ?turn ?fin)
  case turn =>
    intro i x y TT m₁ n₁ own h9 tk9 hx hy hT hJ hoff hw hown F9 N9
    obtain ⟨rfl, hall, hkp⟩ := hJ
    obtain ⟨c1, c2, rfl⟩ := hkp.shape2
    obtain ⟨hlt1, tv, rfl⟩ := ints_item hi1 hx
    obtain ⟨hlt2, tv2, rfl⟩ := ints_item hi2 hy
    obtain ⟨rest, hrest⟩ : ∃ r, r = n₁ ++ own := ⟨_, rfl⟩
    rw [← hrest] at N9
    k_steps
    all_goals subst hrest
    · refine retI lv hret ?_ (by k_asm) (sub_left (b := own) (by k_asm))
      rw [order_at hall hlt1 hlt2 (by assumption), if_pos (by assumption)]
    · refine retI lv hret ?_ (by k_asm) (sub_left (b := own) (by k_asm))
      rw [order_at hall hlt1 hlt2 (by assumption), if_neg (by assumption)]
    · refine TurnEnd.intro (n' := n₁) (by k_asm) (by k_asm) hoff ⟨rfl, fun j hj => ?_, by walk_at "kp"⟩
      rcases Nat.lt_succ_iff_lt_or_eq.mp hj with h | rfl
      · exact hall j h
      · assumption
  case fin =>
    rintro m₁ n₁ h9 tk9 ⟨rfl, hall, hkp⟩ F9 N9
    obtain ⟨c1, c2, rfl⟩ := hkp.shape2
    rw [hvl1, hvl2] at hall
    k_steps
    all_goals (refine retI lv hret ?_ (by k_asm) (by k_asm); rw [order_end hall])
    · rw [if_pos (by omega)]
    · rw [if_neg (by omega), if_pos (by omega)]
    · rw [if_neg (by omega), if_neg (by omega)]
inductive JNa (Fd : Addr) (news : Led) (us1 : List Int) (U1 : Addr) (i : Nat) (m₁ : Str → Option Value) (n₁ : Led) : Prop
  | mk : ∀ vs' n', (n₁ = (Fd, listOf vs'.toArray n') :: news) → (IntsAre vs' (unitsL (us1.take i))) → (Kp [Str.ofString "code"] (fun y => if y = Str.ofString "units" then some (.ref Fd) else List.lookup y [(Str.ofString "codes", .ref U1)]) m₁) → JNa Fd news us1 U1 i m₁ n₁
theorem con_split (w : World) (news : Led) (U1 : Addr) (vs1 : List Value) (us1 : List Int) (n1 : Nat) (hU1 : (U1, listOf vs1.toArray n1) ∈ news) (hi1 : IntsAre vs1 us1) (hlen1 : us1.length ≤ 100) :
    Con w 251 [.ref U1] 40 300 news (fun k => ∀ l vs' n', IntsAre vs' (unitsL us1) → (∀ p ∈ news, p.1 < l) → k (.ref l) ((l, listOf vs'.toArray n') :: news)) := by
  k_with_none
  k_with "call ref" => (k_here; k_dflt (refine' Con.use ?z17kC ?z17k1 ?z17k2 ?z17k3 ?z17k4 ?z17k5 ?z17kK ?z17kd ?z17ku ?_; (case z17k2 => k_asm); (case z17k4 => k_asm); (case z17kC => first | exact con_rank _ _ _ _); (case z17k1 => k_asm); (case z17k3 => k_asm); (case z17k5 => k_asm); (case z17kK => first | exact rfl | assumption); (case z17kd => ktr_room); (case z17ku => ktr_units); intro _ _ _ _ _; (try dsimp only); (try k_fold)))
  k_with_none
  k_with "call ref" => (k_here; k_dflt (refine' Con.use ?z17kC ?z17k1 ?z17k2 ?z17k3 ?z17k4 ?z17k5 ?z17kK ?z17kd ?z17ku ?_; (case z17k2 => k_asm); (case z17k4 => k_asm); (case z17kC => first | exact con_rank _ _ _ _); (case z17k1 => k_asm); (case z17k3 => k_asm); (case z17k5 => k_asm); (case z17kK => first | exact rfl | assumption); (case z17kd => ktr_room); (case z17ku => ktr_units); intro _ _ _ _ _; (try dsimp only); (try k_fold)))
  refine' Con.enter [(Str.ofString "codes", .ref U1)] [(Str.ofString "codes", .ref U1)] 39 297 rfl ?k6 ?k7 ?kd ?ku ?k9 ?kB ?_ ?c2 ?c3 ?c4 ?c5
  case k6 => k_is
  case k7 => k_is
  case kd => decide
  case ku => decide
  case k9 => intro s9 X9; first | exact BindsTo.of_eq rfl | exact binds_K (by k_in) rfl (by k_is) rfl rfl rfl
  case c5 => decide
  case kB => exact locs rfl
  case c2 => exact rfl
  case c3 => exact rfl
  case c4 => exact rfl
  intro loose mean mg mb dp un gd outer A₀ base g' h' L' q0 gg dd oo tk0 k0 B' X' T' hdp hun F' N' hret lv
  refine nameAE ?_
  intro Av Ev
  have hvl1 : vs1.length = us1.length := IntsAre.length hi1
  k_with "exec For Name Name cons nil" => (k_dflt ((rename Fr _ _ _ _ => lF9); (with_unfolding_all refine' For_turns lF9 ?_; k_whole)))
  k_steps
  rename ∀ p ∈ news, p.1 < _ => hlt9
  rename_i Fd _ _ _ _ _ _ _
  k_dflt (refine for_list (by rfl) (by k_asm) (by k_asm) (by k_mem) (JNa Fd news us1 U1) ⟨[], 0, rfl, .nil, .refl⟩ ?turn ?fin)
  case turn =>
    intro i v m₁ n₁ own h9 tk9 hv hJ hoff hw hown F9 N9
    obtain ⟨vs', n', rfl, hvs, hkp⟩ := hJ
    obtain ⟨c1, rfl⟩ := hkp.shape1
    obtain ⟨hlt, tv, rfl⟩ := ints_item hi1 hv
    obtain ⟨rest, hrest⟩ : ∃ r, r = news ++ own := ⟨_, rfl⟩
    rw [List.cons_append, ← hrest] at N9
    have hFd : ∀ p ∈ rest, p.1 ≠ Fd := hrest ▸ fd_list hlt9 hoff hown hU1
    have hvl9 : vs'.length ≤ 200 := by
      have := unitsL_len (us1.take i)
      have h2 : vs'.length = (unitsL (us1.take i)).length := IntsAre.length hvs
      have h3 : (us1.take i).length ≤ us1.length := by rw [List.length_take]; exact Nat.min_le_right _ _
      omega
    k_steps
    all_goals subst hrest
    all_goals (try (rename News _ _ _ ((Fd, _) :: _) => N99; simp only [List.push_toArray] at N99))
    · rename 65535 < _ => hge
      rename News _ _ _ ((_, listOf #[_, _] 0) :: _) => N98
      k_dflt (refine' kl_extend (by k_asm) N98 (.head _) ?e ?ne ?U ?d ?z ?y ?_)
      case U => k_upd
      case e => rfl
      case ne => exact Nat.succ_ne_zero _
      case d => (simp [Builtin.List.listTooLong, sizeLine_eq]; try omega)
      case z => rw [sizeLine_eq]; simp; omega
      case y => rw [sizeLine_eq]; simp; omega
      intro h8 F8 N8
      k_steps
      simp only [List.toList_toArray] at N8
      refine TurnEnd.intro (n' := (Fd, _) :: news) (by k_asm) (news_sub N8 fun p hp => .tail _ hp) (off_re hoff) ⟨_, _, rfl, ?_, by walk_at "kp"⟩
      rw [take_snoc hlt, unitsL_snoc, unitsOf, if_neg (by omega)]
      have e1 : (us1.getD i 0 - 65536).fdiv 1024 = (us1.getD i 0 - 65536) / 1024 := Int.fdiv_eq_ediv_of_nonneg _ (by decide)
      have e2 : (us1.getD i 0).fmod 1024 = us1.getD i 0 % 1024 := Int.fmod_eq_emod_of_nonneg _ (by decide)
      rw [e1, e2]
      exact intsAre_append hvs (.cons _ _ (.cons _ _ .nil))
    · rename ¬ 65535 < _ => hge
      refine TurnEnd.intro (n' := (Fd, _) :: news) (by k_asm) (by k_asm) (off_re hoff) ⟨_, _, rfl, ?_, by walk_at "kp"⟩
      rw [take_snoc hlt, unitsL_snoc, unitsOf, if_pos (by omega)]
      exact ints_snoc hvs _ _
  case fin =>
    rintro m₁ n₁ h9 tk9 ⟨vs', n', rfl, hvs, hkp⟩ F9 N9
    obtain ⟨c1, rfl⟩ := hkp.shape1
    k_steps
    rw [hvl1, List.take_length] at hvs
    exact lv.go (hret _ _ _ hvs hlt9) (by k_asm) (by k_asm)
-- PO
example : True := by w_top off; k_with_none; trivial
noncomputable def WStop (P : Prop) : Prop := P
theorem WStop.go {P : Prop} (h : WStop P) : P := h
noncomputable def WEnd (h₀ : Heap) (L : Addr) (s : Shared) (n : Nat) (J : Nat → (Str → Option Value) → Led → Prop) (s₃ : Shared) : Prop :=
  ∃ h' tk m' n' k, k < n ∧ s₃ = { s with heap := h', toks := tk } ∧ Fr h₀ L h' m' ∧ News h₀ L h' n' ∧ J k m' n'
noncomputable def WTurn (h₀ : Heap) (L : Addr) (s : Shared) (n : Nat) (J : Nat → (Str → Option Value) → Led → Prop) (Q : Flow → Shared → Prop) (f : Flow) (s₃ : Shared) : Prop :=
  match f with
  | .ret v => Q (.ret v) s₃
  | .brk => Q .next s₃
  | _ => WEnd h₀ L s n J s₃
theorem WEnd.intro {h₀ : Heap} {L : Addr} {s : Shared} {n k : Nat} {J : Nat → (Str → Option Value) → Led → Prop} {h' : Heap} {tk : Nat} {m' : Str → Option Value} {n' : Led} (hk : k < n) (F : Fr h₀ L h' m') (N : News h₀ L h' n') (hj : J k m' n') :
    WEnd h₀ L s n J { s with heap := h', toks := tk } := ⟨h', tk, m', n', k, hk, rfl, F, N, hj⟩
theorem while_J {prog : Program} {w : World} {A : Around} {E : Value → Shared → Prop} {s : Shared} {env : Env} {h₀ : Heap} {test : Expr} {body orelse : List Stmt} {pos : Pos} {Q : Flow → Shared → Prop} {m₀ : Str → Option Value} {news : Led}
    (F : Fr h₀ env.locals s.heap m₀) (N : News h₀ env.locals s.heap news) (J : Nat → (Str → Option Value) → Led → Prop) (n0 : Nat) (h0 : J n0 m₀ news)
    (turn : ∀ n m₁ n₁ h tk, J n m₁ n₁ → Fr h₀ env.locals h m₁ → News h₀ env.locals h n₁ →
      wpAny (model prog w) A (isTrue test env (eval test env)) (fun b s₂ => WhlIf b (wpAny (model prog w) A (execs body env) (WTurn h₀ env.locals s n J Q) (fun _ _ => False) s₂) (wpAny (model prog w) A (execs orelse env) Q (fun _ _ => False) s₂)) (fun _ _ => False) { s with heap := h, toks := tk }) :
    wpAny (model prog w) A (exec (.While test body orelse pos) env) Q E s := by
  refine wpAny_noRaise ?_
  refine whl_start 0 ?_
  have key : ∀ n m₁ n₁ h tk, J n m₁ n₁ → Fr h₀ env.locals h m₁ → News h₀ env.locals h n₁ → WhlRest prog w A (fun _ _ => False) env test body orelse Q 0 { s with heap := h, toks := tk } := by
    intro n
    induction n using Nat.strongRecOn with
    | ind n ih =>
      intro m₁ n₁ h tk hJ F N
      refine whl_turn (k := 0) PassesOwn.never (wpAny_mono (turn n m₁ n₁ h tk hJ F N) (fun b s₂ hb => ?_) fun _ _ e => e)
      cases b with
      | false => exact hb
      | true =>
        refine wpAny_mono (t := execs body env) hb (fun f s₃ hf => ?_) fun _ _ e => e
        cases f with
        | ret v => exact hf
        | brk => exact hf
        | next => obtain ⟨h', tk', m', n', k, hk, rfl, F', N', hj⟩ := hf; exact ih k hk m' n' h' tk' hj F' N'
        | cont => obtain ⟨h', tk', m', n', k, hk, rfl, F', N', hj⟩ := hf; exact ih k hk m' n' h' tk' hj F' N'
  exact key n0 m₀ news s.heap s.toks h0 F N
noncomputable def codesW : List Int → List Int
  | [] => []
  | u :: r => if isHigh u then (match r with | v :: r' => (65536 + u % 1024 * 1024 + v % 1024) :: codesW r' | [] => [u]) else u :: codesW r
theorem codesW_low {u : Int} {r : List Int} (h : isHigh u = false) : codesW (u :: r) = u :: codesW r := by
  cases r <;> simp [codesW, h]
inductive JPa (us : List Int) (D : Addr) (Fd : Addr) (news : Led) (U : Addr) (r : Nat) (m₁ : Str → Option Value) (n₁ : Led) : Prop
  | mk : ∀ p : Nat, ∀ vs' n' t oD, (r = us.length - p) → (p ≤ us.length) → (n₁ = (D, oD) :: (Fd, listOf vs'.toArray n') :: news) → ((∃ ds, IntsAre vs' ds ∧ codesW us = ds ++ codesW (us.drop p) ∧ ds.length ≤ p)) → (Kp [Str.ofString "many"] (fun y => if y = Str.ofString "k" then some (.int (p : Nat) t) else if y = Str.ofString "codes" then some (.ref Fd) else List.lookup y [(Str.ofString "units", .ref U)]) m₁) → JPa us D Fd news U r m₁ n₁
theorem con_codes (w : World) (news : Led) (U : Addr) (vs : List Value) (us : List Int) (n : Nat) (hU : (U, listOf vs.toArray n) ∈ news) (hi : IntsAre vs us) (hlen : us.length ≤ 100) (hok : ∀ i, i < us.length → faultS us i = "") :
    Con w 244 [.ref U] 40 300 news (fun k => ∀ l vs' n', IntsAre vs' (codesW us) → (∀ p ∈ news, p.1 < l) → k (.ref l) ((l, listOf vs'.toArray n') :: news)) := by
  k_with_none
  k_with "WTurn" => (dsimp only [WTurn])
  k_with_none
  k_with "WTurn" => (dsimp only [WTurn])
  refine' Con.enter [(Str.ofString "units", .ref U)] [(Str.ofString "units", .ref U)] 39 297 rfl ?k6 ?k7 ?kd ?ku ?k9 ?kB ?_ ?c2 ?c3 ?c4 ?c5
  case k6 => k_is
  case k7 => k_is
  case kd => decide
  case ku => decide
  case k9 => intro s9 X9; first | exact BindsTo.of_eq rfl | exact binds_K (by k_in) rfl (by k_is) rfl rfl rfl
  case c5 => decide
  case kB => exact locs rfl
  case c2 => exact rfl
  case c3 => exact rfl
  case c4 => exact rfl
  intro loose mean mg mb dp un gd outer A₀ base g' h' L' q0 gg dd oo tk0 k0 B' X' T' hdp hun F' N' hret lv
  refine nameAE ?_
  intro Av Ev
  have hvl : vs.length = us.length := IntsAre.length hi
  k_with "exec While Compare" => (k_dflt (refine WStop.go ?_))
  k_steps
  rename ∀ p ∈ news, p.1 < _ => hlt9
  rename_i Fd _ D _ hD _ _ _ _ _ _ _ _ _
  unfold WStop
  k_dflt (refine while_J (by k_asm) (by k_asm) (JPa us D Fd news U) us.length ⟨0, [], 0, _, _, (Nat.sub_zero _).symm, Nat.zero_le _, rfl, ⟨[], .nil, rfl, Nat.le_refl _⟩, by first | walk_at "kp" | (intro y hy; simp only [List.mem_cons, not_or, List.not_mem_nil, not_false_eq_true, and_true] at hy; by_cases hq0 : y = Str.ofString "codes"; (· subst hq0; rfl); by_cases hq1 : y = Str.ofString "k"; (· subst hq1; rfl); simp only [setN, setO, hy, hq0, hq1, if_false])⟩ ?turn)
  case turn =>
    rintro r m₁ n₁ h9 tk9 ⟨p, vs', n', t9, oD, rfl, hp, rfl, ⟨ds, hds, hcw, hdl⟩, hkp⟩ F9 N9
    obtain ⟨c9, rfl⟩ := hkp.shape1
    have hFd := lt_ne hlt9
    have hvl9 : vs'.length ≤ 100 := by have := IntsAre.length hds; omega
    k_steps
    by_cases hpl : p < us.length
    · refine WhlIf.yes (by simpa using hpl) ?_
      have hnx : p + 1 < us.length ∨ us.getD p 0 < 55296 ∨ 56320 ≤ us.getD p 0 := by
        by_cases hh9 : isHigh (us.getD p 0) = true
        · exact .inl (fault_high (hok p hpl) hh9).1
        · right; rw [Bool.not_eq_true, isHigh, Bool.and_eq_false_iff, decide_eq_false_iff_not, decide_eq_false_iff_not] at hh9; omega
      k_steps
      all_goals (rename News _ _ _ (_ :: (Fd, _) :: _) => N99; simp only [List.push_toArray] at N99)
      all_goals simp only [Int.toNat_natCast, tn2, show ∀ x : Int, x.fmod 1024 = x % 1024 from fun x => Int.fmod_eq_emod_of_nonneg _ (by decide)] at *
      · have hh9 : isHigh (us.getD p 0) = true := by simp only [isHigh, Bool.and_eq_true, decide_eq_true_eq]; omega
        refine WEnd.intro (k := us.length - (p + 2)) (sub_dec2 ‹_›) (by k_asm) N99 ⟨p + 2, _, _, _, _, rfl, by omega, rfl, ⟨_, ints_snoc hds _ _, ?_, ?_⟩, by first | walk_at "kp" | (intro y hy; simp only [List.mem_cons, not_or, List.not_mem_nil, not_false_eq_true, and_true] at hy; by_cases hq0 : y = Str.ofString "codes"; (· subst hq0; rfl); by_cases hq1 : y = Str.ofString "k"; (· subst hq1; rfl); simp only [setN, setO, hy, hq0, hq1, if_false])⟩
        · rw [hcw, drop_at hpl, drop_at (i := p + 1) (by omega), codesW, if_pos hh9, List.append_assoc]; rfl
        · rw [List.length_append]; simp; omega
      all_goals (
        have hh9 : isHigh (us.getD p 0) = false := by (simp only [isHigh, Bool.and_eq_false_iff, decide_eq_false_iff_not]; omega)
        refine WEnd.intro (k := us.length - (p + 1)) (sub_dec ‹_›) (by k_asm) N99 ⟨p + 1, _, _, _, _, rfl, by omega, rfl, ⟨_, ints_snoc hds _ _, ?_, ?_⟩, by first | walk_at "kp" | (intro y hy; simp only [List.mem_cons, not_or, List.not_mem_nil, not_false_eq_true, and_true] at hy; by_cases hq0 : y = Str.ofString "codes"; (· subst hq0; rfl); by_cases hq1 : y = Str.ofString "k"; (· subst hq1; rfl); simp only [setN, setO, hy, hq0, hq1, if_false])⟩
        · rw [hcw, drop_at hpl, codesW_low hh9, List.append_assoc]; rfl
        · rw [List.length_append]; simp; omega)
    · refine WhlIf.no (by simpa using hpl) ?_
      k_steps
      obtain rfl : p = us.length := by omega
      rw [List.drop_length, codesW, List.append_nil] at hcw
      exact lv.go (hret _ _ _ (hcw ▸ hds) hlt9) (by k_asm) (news_sub (by k_asm) fun p hp => .tail _ hp)
noncomputable def w0 (c : Int) : String := if isHigh c then "high" else if isLow c then "low" else ""
theorem low_not_high {c : Int} (h : isLow c = true) : isHigh c = false := by
  have := low_bounds h
  simp only [isHigh, Bool.and_eq_false_iff, decide_eq_false_iff_not]; omega
noncomputable def stW (us : List Int) (j i : Nat) : String := if i + 1 < j then faultS us i else if i + 1 = j then (if isLow (us.getD i 0) then (if 0 < i && isHigh (us.getD (i - 1) 0) then "" else "low") else w0 (us.getD i 0)) else w0 (us.getD i 0)
theorem w0_high {c : Int} (h : isHigh c = true) : w0 c = "high" := by rw [w0, if_pos h]
theorem w0_low {c : Int} (h : isLow c = true) : w0 c = "low" := by rw [w0, low_not_high h, if_neg (by decide), if_pos h]
theorem w0_none {c : Int} (h : isHigh c = false) (h2 : isLow c = false) : w0 c = "" := by rw [w0, h, h2]; rfl
theorem w0_eq_high (c : Int) : (Str.ofString (w0 c) == Str.ofString "high") = isHigh c := by
  cases h : isHigh c
  · cases h2 : isLow c
    · rw [w0_none h h2]; decide
    · rw [w0_low h2]; decide
  · rw [w0_high h]; decide
theorem w0_eq_low (c : Int) : (Str.ofString (w0 c) == Str.ofString "low") = isLow c := by
  cases h : isHigh c
  · cases h2 : isLow c
    · rw [w0_none h h2]; decide
    · rw [w0_low h2]; decide
  · rw [w0_high h, high_not_low h]; decide
theorem st_self (us : List Int) (i : Nat) : stW us (i + 1) i = if isLow (us.getD i 0) then (if 0 < i && isHigh (us.getD (i - 1) 0) then "" else "low") else w0 (us.getD i 0) := by
  rw [stW, if_neg (by omega), if_pos rfl]
theorem st_above (us : List Int) {j i : Nat} (h : j ≤ i) : stW us j i = w0 (us.getD i 0) := by
  rw [stW, if_neg (by omega), if_neg (by omega)]
theorem st_below (us : List Int) {j i : Nat} (h : i + 1 < j) : stW us j i = faultS us i := by
  rw [stW, if_pos h]
theorem st_a (us : List Int) (i : Nat) : (Str.ofString (stW us (i + 1) i) == Str.ofString "high") = isHigh (us.getD i 0) := by
  rw [st_self]
  cases h : isLow (us.getD i 0)
  · simp only [Bool.false_eq_true, if_false, w0_eq_high]
  · rw [low_not_high h]
    simp only [if_true]
    split <;> decide
theorem st_b (us : List Int) (i : Nat) : (Str.ofString (stW us (i + 1) (i + 1)) == Str.ofString "low") = isLow (us.getD (i + 1) 0) := by
  rw [st_above us (Nat.le_refl _), w0_eq_low]
theorem st_start (us : List Int) (i : Nat) : stW us 1 i = w0 (us.getD i 0) := by
  cases i with
  | zero =>
    rw [show (1 : Nat) = 0 + 1 from rfl, st_self]
    cases h : isLow (us.getD 0 0)
    · rfl
    · rw [w0_low h]; rfl
  | succ i => exact st_above us (by omega)
theorem fault_of_high {us : List Int} {i : Nat} (h : isHigh (us.getD i 0) = true) : faultS us i = if i + 1 < us.length && isLow (us.getD (i + 1) 0) then "" else "high" := by
  rw [faultS, high_not_low h, if_neg (by decide), if_pos h]
theorem fault_of_low {us : List Int} {i : Nat} (h : isLow (us.getD i 0) = true) : faultS us i = if 0 < i && isHigh (us.getD (i - 1) 0) then "" else "low" := by
  rw [faultS, if_pos h]
theorem fault_of_none {us : List Int} {i : Nat} (h : isHigh (us.getD i 0) = false) (h2 : isLow (us.getD i 0) = false) : faultS us i = "" := by
  rw [faultS, h, h2]; rfl
theorem st_set {us : List Int} {i : Nat} (hi : i + 1 < us.length) (h1 : isHigh (us.getD i 0) = true) (h2 : isLow (us.getD (i + 1) 0) = true) (j : Nat) :
    stW us (i + 1 + 1) j = if j = i then "" else if j = i + 1 then "" else stW us (i + 1) j := by
  by_cases e1 : j = i
  · subst e1
    rw [if_pos rfl, st_below us (by omega), fault_of_high h1, h2]; simp [hi]
  · rw [if_neg e1]
    by_cases e2 : j = i + 1
    · subst e2
      rw [if_pos rfl, st_self, h2, Nat.add_sub_cancel, h1]; simp
    · rw [if_neg e2]
      by_cases e3 : j < i
      · rw [st_below us (by omega), st_below us (by omega)]
      · rw [st_above us (by omega), st_above us (by omega)]
theorem st_keep {us : List Int} {i : Nat} (hi : i + 1 < us.length) (h : isHigh (us.getD i 0) = false ∨ isLow (us.getD (i + 1) 0) = false) (j : Nat) :
    stW us (i + 1 + 1) j = stW us (i + 1) j := by
  by_cases e1 : j = i
  · subst e1
    rw [st_below us (by omega), st_self]
    cases h3 : isLow (us.getD j 0)
    · cases h4 : isHigh (us.getD j 0)
      · rw [fault_of_none h4 h3, w0_none h4 h3]; rfl
      · rcases h with h | h
        · rw [h4] at h; cases h
        · rw [fault_of_high h4, h, w0_high h4]; simp
    · rw [fault_of_low h3]; rfl
  · by_cases e2 : j = i + 1
    · subst e2
      rw [st_self, st_above us (Nat.le_refl _)]
      cases h3 : isLow (us.getD (i + 1) 0)
      · rfl
      · rcases h with h | h
        · rw [w0_low h3, Nat.add_sub_cancel, h]; simp
        · rw [h3] at h; cases h
    · by_cases e3 : j < i
      · rw [st_below us (by omega), st_below us (by omega)]
      · rw [st_above us (by omega), st_above us (by omega)]
theorem st_end {us : List Int} {j : Nat} (hj : j < us.length) : stW us us.length j = faultS us j := by
  by_cases e : j + 1 < us.length
  · exact st_below us e
  · have e2 : us.length = j + 1 := by omega
    rw [e2, st_self]
    cases h3 : isLow (us.getD j 0)
    · cases h4 : isHigh (us.getD j 0)
      · rw [fault_of_none h4 h3, w0_none h4 h3]; rfl
      · rw [fault_of_high h4, w0_high h4, e2]; simp
    · rw [fault_of_low h3]; rfl
theorem strs_set {x : Str} {u : Tok} : ∀ {vs : List Value} {ns : List Str}, StrsAre vs ns → ∀ j : Nat, StrsAre (vs.set j (.str x u)) (ns.set j x)
  | _, _, .nil, _ => .nil
  | _, _, .cons _ _ h, 0 => .cons x u h
  | _, _, .cons i t h, j + 1 => .cons i t (strs_set h j)
theorem strs_snoc {x : Str} {u : Tok} : ∀ {vs : List Value} {ns : List Str}, StrsAre vs ns → StrsAre (vs ++ [.str x u]) (ns ++ [x])
  | _, _, .nil => .cons x u .nil
  | _, _, .cons i t h => .cons i t (strs_snoc h)
theorem map_set2 {α : Type} (f g : Nat → α) (n a b : Nat) (x : α) (h : ∀ j, j < n → g j = if j = a then x else if j = b then x else f j) : (((List.range n).map f).set a x).set b x = (List.range n).map g := by
  apply List.ext_getElem
  · simp
  · intro j h1 h2
    have hj : j < n := by simpa using h2
    simp only [List.getElem_set, List.getElem_map, List.getElem_range, h j hj]
    by_cases e1 : b = j
    · subst e1; simp
    · by_cases e2 : a = j
      · subst e2; simp [e1]
      · rw [if_neg e1, if_neg e2, if_neg (fun e => e2 e.symm), if_neg (fun e => e1 e.symm)]
theorem getD_map_range {α : Type} (f : Nat → α) (n j : Nat) (d : α) (h : j < n) : ((List.range n).map f).getD j d = f j := by
  simp [List.getD, h]
theorem set_any {prog : Program} {w : World} {A : Around} {E : Value → Shared → Prop} {s : Shared} {h₀ : Heap} {L D : Addr} {m : Str → Option Value} {news news' : List (Addr × Obj)} {vs : List Value} {n : Nat} {k : Int} {x : Value} {t : Tok} {Q : Unit → Shared → Prop} (F : Fr h₀ L s.heap m) (N : News h₀ L s.heap news) (U : Upd D (listOf vs.toArray n) (listOf (vs.set k.toNat x).toArray n) news news') (h0 : 0 ≤ k) (h1 : k < vs.length) (hfit : k < 2 ^ 63)
    (h : ∀ h', Fr h₀ L h' m → News h₀ L h' news' → Q () { s with heap := h' }) :
    wpAny (model prog w) A (setItem (.ref D) (.int k t) x) Q E s := by
  obtain ⟨pre, post, rfl, rfl, a, b⟩ := U.split
  have z := N (D, listOf vs.toArray n) (List.mem_append.mpr (.inr (.head _)))
  have hs : vs.toArray.size = vs.length := by rw [List.size_toArray]
  have hj : k.toNat < vs.length := by omega
  refine ki_setAt z.1 h0 hfit (by omega) (h _ (F.change (Heap.SameBut.update ..) z.2.1 z.2.2) (ki_turn _ N a b ?_ ?_))
  · show vs.toArray.setIfInBounds k.toNat x = (vs.set k.toNat x).toArray
    apply Array.toList_inj.mp
    simp
  · simp
inductive JPb (n₁ : Led) (D : Addr) (us : List Int) (U : Addr) (i : Nat) (m₁ : Str → Option Value) (n₂ : Led) : Prop
  | mk : ∀ vs' n', (n₂ = (D, listOf vs'.toArray n') :: n₁) → (StrsAre vs' ((List.range us.length).map fun j => Str.ofString (stW us (i + 1) j))) → (Kp [Str.ofString "k"] (fun y => if y = Str.ofString "faulty" then some (.ref D) else List.lookup y [(Str.ofString "units", .ref U)]) m₁) → JPb n₁ D us U i m₁ n₂
theorem con_words (w : World) (news : Led) (U : Addr) (vs : List Value) (us : List Int) (n : Nat) (hU : (U, listOf vs.toArray n) ∈ news) (hi : IntsAre vs us) (hlen : us.length ≤ 100) :
    Con w 237 [.ref U] 40 300 news (fun k => ∀ l vs' n', StrsAre vs' ((List.range us.length).map fun i => Str.ofString (faultS us i)) → (∀ p ∈ news, p.1 ≠ l) → k (.ref l) ((l, listOf vs'.toArray n') :: news)) := by
  k_with_none
  k_with "WTurn" => (dsimp only [WTurn])
  k_with "setItem ref int" => (k_here; (with_reducible show wpAny _ _ (setItem (Value.ref _) (Value.int _ _) (Value.str _ _)) _ _ _); k_dflt (refine' set_any ?z19k1 ?z19k2 ?z19k3 ?z19k5 ?z19k6 ?z19k7 ?_; (case z19k1 => k_asm); (case z19k2 => k_asm); (case z19k3 => k_upd); (case z19k5 => omega); (case z19k6 => ((try simp only [List.length_set]); omega)); (case z19k7 => omega); k_whole); intro _ _ N'; (try dsimp only at N'))
  k_with_none
  k_with "WTurn" => (dsimp only [WTurn])
  k_with "setItem ref int" => (k_here; (with_reducible show wpAny _ _ (setItem (Value.ref _) (Value.int _ _) (Value.str _ _)) _ _ _); k_dflt (refine' set_any ?z19k1 ?z19k2 ?z19k3 ?z19k5 ?z19k6 ?z19k7 ?_; (case z19k1 => k_asm); (case z19k2 => k_asm); (case z19k3 => k_upd); (case z19k5 => omega); (case z19k6 => ((try simp only [List.length_set]); omega)); (case z19k7 => omega); k_whole); intro _ _ N'; (try dsimp only at N'))
  refine' Con.enter [(Str.ofString "units", .ref U)] [(Str.ofString "units", .ref U)] 39 297 rfl ?k6 ?k7 ?kd ?ku ?k9 ?kB ?_ ?c2 ?c3 ?c4 ?c5
  case k6 => k_is
  case k7 => k_is
  case kd => decide
  case ku => decide
  case k9 => intro s9 X9; first | exact BindsTo.of_eq rfl | exact binds_K (by k_in) rfl (by k_is) rfl rfl rfl
  case c5 => decide
  case kB => exact locs rfl
  case c2 => exact rfl
  case c3 => exact rfl
  case c4 => exact rfl
  intro loose mean mg mb dp un gd outer A₀ base g' h' L' q0 gg dd oo tk0 k0 B' X' T' hdp hun F' N' hret lv
  refine nameAE ?_
  intro Av Ev
  have hvl : vs.length = us.length := IntsAre.length hi
  k_with "exec Assign cons ListComp" => (k_dflt (refine Assign_ListComp_J (by k_asm) (by rfl) (by with_unfolding_all rfl) (by with_unfolding_all rfl) (by decide) (by rfl) (by decide) (by rfl) (by rfl) ?_))
  k_with "exec For Name Call cons nil" => (k_dflt ((rename Fr _ _ _ _ => lF9); (with_unfolding_all refine' For_turns lF9 ?_; k_whole)))
  k_steps
  k_dflt (refine comp_list (by rfl) (by k_asm) (by k_asm) (by k_mem) (by rw [hvl, sizeLine_eq]; omega) (by rfl) (by rfl) (fun i ys n₁ => n₁ = news ∧ StrsAre ys ((List.range i).map fun i => Str.ofString (w0 (us.getD i 0)))) ⟨rfl, .nil⟩ ?turn ?fin)
  case turn =>
    intro g9 i ys n₁ own C D oC m₂ h9 tk9 E9 hi9 hz hJ hoff hw hown hoC F9 N9
    obtain ⟨v9, hv9, hz⟩ := hz
    obtain ⟨rfl, hys⟩ := hJ
    obtain ⟨hlt, tv, rfl⟩ := ints_item hi hv9
    refine tests_ce ?_
    intro qc hqc
    (try dsimp only)
    k_steps
    all_goals (refine CE.go hqc (n' := n₁) (by k_asm) (ce_back (by k_asm)) hoff ⟨rfl, ?_⟩; rw [range_map_snoc])
    · rw [w0_high (by simp only [isHigh, Bool.and_eq_true, decide_eq_true_eq]; omega)]; exact strs_snoc hys
    · rw [w0_low (by simp only [isLow, Bool.and_eq_true, decide_eq_true_eq]; omega)]; exact strs_snoc hys
    all_goals (rw [w0_none (by simp only [isHigh, Bool.and_eq_false_iff, decide_eq_false_iff_not]; omega) (by simp only [isLow, Bool.and_eq_false_iff, decide_eq_false_iff_not]; omega)]; exact strs_snoc hys)
  case fin =>
    rintro g9 tk9 ys n₁ ⟨rfl, hys⟩ D h9 tk9 F9 N9 hD
    rw [hvl] at hys
    k_steps
    k_dflt (refine for_range (by rfl) (by k_asm) (by k_asm) (by assumption) (small_one (by omega) (by omega) (by omega) (by omega)) (rangeSize_nat _ _) (JPb n₁ D us U) ⟨ys, ys.length, rfl, ?_, .refl⟩ ?turn ?fin2)
    · simpa only [Nat.zero_add, st_start] using hys
    case turn =>
      intro i t m₁ n₂ own h9 tk9 hin hJ hoff hw hown F9 N9
      obtain ⟨vs', n', rfl, hvs, hkp⟩ := hJ
      obtain ⟨c, rfl⟩ := hkp.shape1
      obtain ⟨rest, hrest⟩ : ∃ r, r = n₁ ++ own := ⟨_, rfl⟩
      rw [List.cons_append, ← hrest] at N9
      have ek : (1 + (i : Int) * 1) = ((i + 1 : Nat) : Int) := by omega
      rw [ek]
      have hi2 : i + 1 < us.length := by omega
      have hvl2 : vs'.length = us.length := by have := StrsAre.length hvs; simpa using this
      have hDr : ∀ p ∈ rest, p.1 ≠ D := hrest ▸ off_rest hD hown (hoff _ (.head _))
      have eg1 : ((List.range us.length).map (fun j => Str.ofString (stW us (i + 1) j))).getD (((i + 1 : Nat) : Int) - 1).toNat Str.empty = Str.ofString (stW us (i + 1) i) := by
        rw [tnp i, getD_map_range _ _ _ _ (by omega)]
      have eg2 : ((List.range us.length).map (fun j => Str.ofString (stW us (i + 1) j))).getD (((i + 1 : Nat) : Int)).toNat Str.empty = Str.ofString (stW us (i + 1) (i + 1)) := by
        rw [show (((i + 1 : Nat) : Int)).toNat = i + 1 from rfl, getD_map_range _ _ _ _ (by omega)]
      k_steps
      all_goals rw [eg1, st_a] at *
      all_goals (try rw [eg2, st_b] at *)
      all_goals subst hrest
      · rename isHigh _ = true => hh9
        rename isLow _ = true => hl9
        rename News _ _ _ (_ :: (D, _) :: _) => N99
        refine TurnEnd.intro (n' := (D, _) :: n₁) (by k_asm) (news_sub N99 fun p hp => .tail _ hp) (off_re hoff) ⟨_, _, rfl, ?_, by walk_at "kp"⟩
        rw [tnp i, show (((i + 1 : Nat) : Int)).toNat = i + 1 from rfl]
        rw [← map_set2 (fun j => Str.ofString (stW us (i + 1) j)) (fun j => Str.ofString (stW us (i + 1 + 1) j)) us.length i (i + 1) (Str.ofString "") (fun j _ => by
          rw [st_set hi2 hh9 hl9 j]; (repeat' split) <;> rfl)]
        exact strs_set (strs_set hvs i) (i + 1)
      · rename isLow _ = false => hl9
        refine TurnEnd.intro (n' := (D, _) :: n₁) (by k_asm) (by k_asm) (off_re hoff) ⟨_, _, rfl, ?_, by walk_at "kp"⟩
        simp only [st_keep hi2 (.inr hl9)]
        exact hvs
      · rename isHigh _ = false => hh9
        refine TurnEnd.intro (n' := (D, _) :: n₁) (by k_asm) (by k_asm) (off_re hoff) ⟨_, _, rfl, ?_, by walk_at "kp"⟩
        simp only [st_keep hi2 (.inl hh9)]
        exact hvs
    case fin2 =>
      rintro m₁ n₂ h9 tk9 ⟨vs', n', rfl, hvs, hkp⟩ F9 N9
      obtain ⟨c, rfl⟩ := hkp.shape1
      k_steps
      refine lv.go (hret _ _ _ ?_ hD) (by k_asm) (by k_asm)
      have e9 : (List.range us.length).map (fun j => Str.ofString (stW us (((us.length : Int) - 1).toNat + 1) j)) = (List.range us.length).map (fun j => Str.ofString (faultS us j)) := by
        refine List.map_congr_left fun j hj => ?_
        have hj := List.mem_range.mp hj
        rw [show ((us.length : Int) - 1).toNat + 1 = us.length by omega, st_end hj]
      rw [← e9]
      exact hvs
-- PGA
theorem size4 (n : Nat) : Builtin.Range.rangeSize 0 ((n : Int) - 3) 4 = ((n / 4 : Nat) : Int) := by
  unfold Builtin.Range.rangeSize
  rw [if_pos (by decide)]
  split <;> omega
theorem size2 (n : Nat) : Builtin.Range.rangeSize 0 ((n : Int) - 1) 2 = ((n / 2 : Nat) : Int) := by
  unfold Builtin.Range.rangeSize
  rw [if_pos (by decide)]
  split <;> omega
theorem small4 {n : Nat} (h : n ≤ 1000) : Builtin.Range.small 0 ((n : Int) - 3) 4 = true := by
  unfold Builtin.Range.small
  rw [size4]
  simp only [Builtin.Range.rangeFitsLong, Bool.and_eq_true, Bool.or_eq_true, decide_eq_true_eq, beq_iff_eq, show (4 : Int) > 0 by decide, if_true]
  omega
theorem small2 {n : Nat} (h : n ≤ 1000) : Builtin.Range.small 0 ((n : Int) - 1) 2 = true := by
  unfold Builtin.Range.small
  rw [size2]
  simp only [Builtin.Range.rangeFitsLong, Bool.and_eq_true, Bool.or_eq_true, decide_eq_true_eq, beq_iff_eq, show (2 : Int) > 0 by decide, if_true]
  omega
section
variable {prog : Program} {w : World} {A : Around} {E : Value → Shared → Prop} {s : Shared} {env : Env} {h₀ : Heap} {target : Expr} {body : List Stmt} {Q : Flow → Shared → Prop}
theorem for_tuple {l : Addr} {vs : List Value} {m₀ : Str → Option Value} {news : Led}
    (hh : A.handled = none) (F : Fr h₀ env.locals s.heap m₀) (N : News h₀ env.locals s.heap news) (hl : s.heap.IsTuple l vs.toArray) (hlL : env.locals ≠ l)
    (J : Nat → (Str → Option Value) → Led → Prop) (h0 : J 0 m₀ news)
    (turn : ∀ i v m₁ n₁ own h tk, vs[i]? = some v → J i m₁ n₁ → Off [s.heap.objs.size] n₁ → (∀ b ∈ [s.heap.objs.size], ∃ o, (b, o) ∈ own) → (∀ p ∈ own, p.1 ∈ [s.heap.objs.size, l]) → Fr h₀ env.locals h m₁ → News h₀ env.locals h (n₁ ++ own) →
      wpAny (model prog w) A (assign target env v) (fun _ s₃ => wpAny (model prog w) A (execs body env) (TurnPost h₀ env.locals [s.heap.objs.size] own (J (i + 1)) { s with heap := h, toks := tk } Q) E s₃) E { s with heap := h, toks := tk })
    (done : ∀ m₁ n₁ h tk, J vs.length m₁ n₁ → Fr h₀ env.locals h m₁ → News h₀ env.locals h n₁ → Q .next { s with heap := h, toks := tk }) :
    wpAny (model prog w) A (pyIter (.ref l)) (fun it s₂ => TurnsAt prog w A h₀ env target body Q E it s₂) E s := by
  have hlt : l < s.heap.objs.size := by obtain ⟨o, e, _⟩ := hl; exact Heap.lt_size e
  have hne : l ≠ s.heap.objs.size := Nat.ne_of_lt hlt
  refine wpAny_pyIter_tuple hl ?_
  refine turnsJ (KTurns.ofWalks (Walks.tuple hh s.heap.objs.size l hne vs.toArray) fun i v s Q E st q => letGo_tupleiter st.1 q) (fun i h st b hb => ?_) ?_ (fun b hb => ?_) (fun p hp hI => ?_) ?_ (F.push _) (fun p hp => ⟨Heap.get?_push_of_some _ (N p hp).1, (N p hp).2⟩) J h0
    (fun i v m₁ n₁ own h tk _ hP hJ ho hw hs F₁ N₁ => turn i v m₁ n₁ own h tk (by simpa using hP) hJ ho hw hs F₁ N₁) (fun m₁ n₁ h tk hj => done m₁ n₁ h tk (by simpa using hj))
  · rw [List.mem_singleton.mp hb]
    obtain ⟨it, hit, _⟩ := st.1
    exact ⟨it, hit⟩
  · intro hI
    rcases List.mem_cons.mp hI with e | hI
    · exact absurd F.ns.lt (e ▸ Nat.lt_irrefl _)
    · exact hlL (List.mem_singleton.mp hI)
  · rw [List.mem_singleton.mp hb]; exact next_is_new F
  · exact absurd (Heap.lt_size (N p hp).1) ((List.mem_singleton.mp hI) ▸ Nat.lt_irrefl _)
  · exact ⟨⟨_, Heap.get?_push_size _ rfl, rfl, rfl⟩, hl.at fun o e => Heap.get?_push_of_some _ e⟩
end
/-! a bytes turned round -/
noncomputable def revB (b : Array UInt8) : Array UInt8 := b.toList.reverse.toArray
theorem revB_ints {b : Array UInt8} {ks : List Int} (h : KBw.bInts b = ks) : KBw.bInts (revB b) = ks.reverse := by
  subst h
  show (b.toList.reverse.map _) = (b.toList.map _).reverse
  rw [List.map_reverse]
theorem sliced_rev (b : Array UInt8) : Builtin.Bytes.sliced b ((b.size : Int) - 1) (-1) (-1) = revB b := by
  show ((sliceRange ((b.size : Int) - 1) (-1) (-1)).filterMap (b[·]?)).toArray = _
  rw [krv_sliceRange, krv_range, List.filterMap_reverse, krv_all]; rfl
theorem meets_rev (b : Array UInt8) (t : Tok) (a : Addr) (u : Tok) :
    Meets (Builtin.«bytes.__getitem__» ⟨[.bytes b t, .ref a], []⟩) (fun _ R s => s.heap.IsSliceOf a .none .none (.int (-1) u) ∧ b.size ≤ sizeLine ∧ ∀ t' k, R (.ok (.ret (.bytes (revB b) t'))) { s with toks := k }) := by
  refine .of_wp fun prog w A R s hS => ?_
  obtain ⟨⟨o, ho, hc, hd⟩, hsz, h⟩ := hS
  have hT : s.TypeIs (.ref a) "slice" := ⟨o, ho, hc⟩
  show wpAny _ _ (Builtin.Bytes.payload (.bytes b t) >>= fun r => _) _ _ s
  refine wpAny_bind (wpAny_of_eq (a := b) rfl ?_)
  show wpAny _ _ (Builtin.Bytes.subscript? (.ref a) >>= fun r => _) _ _ s
  refine wpAny_bind ?_
  unfold Builtin.Bytes.subscript?
  refine wpAny_bind (wpAny_specialOf hT slice_no_index (wpAny_pure ?_))
  refine wpAny_bind (wpAny_typeOf hT ?_)
  show wpAny _ _ (Builtin.Bytes.sliceParts (.ref a) >>= fun r => _) _ _ s
  refine wpAny_bind ?_
  unfold Builtin.Bytes.sliceParts
  refine wpAny_bind (wpAny_field (x := .int (-1) u) ho hd rfl ?_)
  kby_int
  refine wpAny_ite (KBy.ite_no (show ¬ ((rawInt (-1) == rawInt 0) = true) by decide) ?_)
  refine wpAny_bind (wpAny_field (x := .none) ho hd rfl ?_)
  kby_none
  refine wpAny_bind (wpAny_field (x := .none) ho hd rfl ?_)
  kby_none
  refine wpAny_pure ?_
  have go : wpAny (model prog w) A.in1 (sliceIndices (rawPart none) (rawPart none) (rawPart (some (-1))) b.size) (fun r s' => r = sliceBounds none none (some (-1)) b.size ∧ s' = s) (fun _ _ => False) s :=
    wpAny_of_eq (sliceIndices_raw none none (some (-1)) b.size (by decide)) ⟨rfl, rfl⟩
  refine wpAny_bind (wpAny_mono go (fun r s' hr => ?_) fun _ _ e => e.elim)
  obtain ⟨hr1, hr2⟩ := hr
  subst hr1 hr2
  rw [krv_bounds]
  refine wpAny_ite (KBy.ite_no (by simp) ?_)
  refine wpAny_bind (wpAny_mkBytes (wpAny_pure ⟨_, rfl, ?_⟩) (by rw [sliced_rev]; simpa [revB] using hsz))
  rw [sliced_rev]
  exact h _ _
theorem rev_K {prog : Program} {w : World} {A : Around} {E : Value → Shared → Prop} {s : Shared} {value slice : PySem.Expr} {b : Array UInt8} {t u : Tok} {h₀ : Heap} {L : Addr} {m : PySem.Str → Option Value} {news : List (Addr × Obj)} {Q : Value → Shared → Prop} {ks : List Int} (hF : Fr h₀ L s.heap m) (hN : News h₀ L s.heap news) (hk : KBw.bInts b = ks) (hz : ks.length ≤ 16777216)
    (h : ∀ h' t' k, Fr h₀ L h' m → News h₀ L h' news → KBw.bInts (revB b) = ks.reverse → Q (.bytes (revB b) t') { s with heap := h', toks := k })
    (hs : subscripted slice false (.bytes b t) (.ref s.heap.objs.size) = operate [.ref s.heap.objs.size, .bytes b t] (getItem (.bytes b t) (.ref s.heap.objs.size)) := by with_unfolding_all rfl)
    (ht : ∀ r, letTemporaryGo value (.bytes b t) r = pure () := by intro _; with_unfolding_all rfl) :
    wpAny (model prog w) A (subscriptTail value slice (.bytes b t) (.ref s.heap.objs.size)) Q E { s with heap := s.heap.push { cls := .type "slice", data := .fields #[.none, .none, .int (-1) u] } } :=
  tail_of_ItemOn ⟨"bytes", _, FB.slot_bytes_getitem.lookup, typeIs_bytes _ _ _, getItem_meets (typeIs_bytes _ _ _) (by decide) FB.slot_bytes_getitem FB.entry_bytes_getitem (FB.args_bytes_getitem_2 _ _) (meets_rev b t _ u)
    ⟨Heap.IsSliceOf.new _ _ _ _, by rw [← KBw.ints_length b, hk, sizeLine_eq]; exact hz, fun t' k => h _ _ _ (hF.push _) (News.pushKeep hN _) (revB_ints hk)⟩⟩ hs ht
/-! what is guessed -/
noncomputable def qsL (ks : List Int) (b : Bool) (n : Nat) : List Int := (List.range n).map fun j => codeAt ks (4 * j) b
noncomputable def goodC (c : Int) : Bool := (decide (0 < c) && decide (c < 55296)) || (decide (57344 ≤ c) && decide (c < 1114112))
noncomputable def smallC (c : Int) : Bool := decide (c < 65536)
noncomputable def hit32 (l : List Int) : Bool := decide (l ≠ []) && decide (l.filter goodC = l) && decide ((l.length : Int) < 2 * ((l.filter smallC).length : Int))
noncomputable def aheadB (ks : List Int) (j : Nat) : Bool := decide (ks.getD (2 * j) 0 = 0) && decide (ks.getD (2 * j + 1) 0 ≠ 0)
noncomputable def behindB (ks : List Int) (j : Nat) : Bool := decide (ks.getD (2 * j + 1) 0 = 0) && decide (ks.getD (2 * j) 0 ≠ 0)
noncomputable def cntL (p : Nat → Bool) (n : Nat) : Nat := ((List.range n).filter p).length
noncomputable def guessT (ks : List Int) : Option String :=
  if ((ks.length / 2 : Nat) : Int) < 2 * (cntL (aheadB ks) (ks.length / 2) : Int) ∧ cntL (behindB ks) (ks.length / 2) = 0 then some "utf-16be"
  else if ((ks.length / 2 : Nat) : Int) < 2 * (cntL (behindB ks) (ks.length / 2) : Int) ∧ cntL (aheadB ks) (ks.length / 2) = 0 then some "utf-16le" else none
noncomputable def guessS (ks : List Int) : Option String :=
  if hit32 (qsL ks true (ks.length / 4)) then some "utf-32be" else if hit32 (qsL ks false (ks.length / 4)) then some "utf-32le" else guessT ks
noncomputable def GuessP (k : Value → Led → Prop) (news : Led) (g : Option String) : Prop := (∀ x, g = some x → ∀ t, k (.str (Str.ofString x) t) news) ∧ (g = none → k .none news)
theorem isScal_good {c : Int} : goodC c = (isScal c && decide (c ≠ 0)) := by
  rw [Bool.eq_iff_iff]
  simp only [goodC, isScal, isSur, Bool.and_eq_true, Bool.or_eq_true, decide_eq_true_eq, Bool.not_eq_true', Bool.and_eq_false_iff, decide_eq_false_iff_not]
  omega
theorem cnt_snoc (p : Nat → Bool) (n : Nat) : cntL p (n + 1) = cntL p n + if p n then 1 else 0 := by
  unfold cntL
  rw [List.range_succ, List.filter_append, List.length_append]
  congr 1
  cases h : p n <;> simp [h]
theorem cnt_le (p : Nat → Bool) (n : Nat) : cntL p n ≤ n := by
  unfold cntL
  exact Nat.le_trans (List.length_filter_le _ _) (by simp)
theorem qs_snoc (ks : List Int) (b : Bool) (n : Nat) : qsL ks b (n + 1) = qsL ks b n ++ [codeAt ks (4 * n) b] := by
  unfold qsL
  rw [List.range_succ, List.map_append]; rfl
theorem qs_len (ks : List Int) (b : Bool) (n : Nat) : (qsL ks b n).length = n := by simp [qsL]
theorem hit_yes {l : List Int} (h1 : l ≠ []) (h2 : l.filter goodC = l) (h3 : (l.length : Int) < 2 * ((l.filter smallC).length : Int)) : hit32 l = true := by
  simp only [hit32, Bool.and_eq_true, decide_eq_true_eq]; exact ⟨⟨h1, h2⟩, h3⟩
theorem hit_no1 {l : List Int} (h : l = []) : hit32 l = false := by
  simp only [hit32, Bool.and_eq_false_iff, decide_eq_false_iff_not]; exact .inl (.inl (fun x => x h))
theorem hit_no2 {l : List Int} (h : ¬ l.filter goodC = l) : hit32 l = false := by
  simp only [hit32, Bool.and_eq_false_iff, decide_eq_false_iff_not]; exact .inl (.inr h)
theorem hit_no3 {l : List Int} (h : ¬ (l.length : Int) < 2 * ((l.filter smallC).length : Int)) : hit32 l = false := by
  simp only [hit32, Bool.and_eq_false_iff, decide_eq_false_iff_not]; exact .inr h
theorem guess_be {ks : List Int} (h : hit32 (qsL ks true (ks.length / 4)) = true) : guessS ks = some "utf-32be" := by rw [guessS, if_pos h]
theorem guess_le {ks : List Int} (h0 : hit32 (qsL ks true (ks.length / 4)) = false) (h : hit32 (qsL ks false (ks.length / 4)) = true) : guessS ks = some "utf-32le" := by rw [guessS, if_neg (by rw [h0]; decide), if_pos h]
theorem guess_t {ks : List Int} (h0 : hit32 (qsL ks true (ks.length / 4)) = false) (h : hit32 (qsL ks false (ks.length / 4)) = false) : guessS ks = guessT ks := by rw [guessS, if_neg (by rw [h0]; decide), if_neg (by rw [h]; decide)]
theorem guess_ord {ks : List Int} {b : Bool} (h0 : b = false → hit32 (qsL ks true (ks.length / 4)) = false) (h : hit32 (qsL ks b (ks.length / 4)) = true) : guessS ks = some ("utf-32" ++ ordS b) := by
  cases b
  · exact guess_le (h0 rfl) h
  · exact guess_be h
-- PGB
example : True := by w_top off; k_with_none; trivial
theorem in_rev {us : List Int} (h : ∀ c ∈ us, 0 ≤ c ∧ c < 256) : ∀ c ∈ us.reverse, 0 ≤ c ∧ c < 256 := fun c hc => h c (List.mem_reverse.mp hc)
theorem in_snoc {us : List Int} {x : Int} (h : ∀ c ∈ us, 0 ≤ c ∧ c < 256) (hx : 0 ≤ x ∧ x < 256) : ∀ c ∈ us ++ [x], 0 ≤ c ∧ c < 256 := fun c hc => by
  rcases List.mem_append.mp hc with hc | hc
  · exact h c hc
  · rw [List.mem_singleton.mp hc]; exact hx
theorem sub_tpn2 {x c : Led} : ∀ p ∈ c, p ∈ x ++ c := fun p hp => List.mem_append_right _ hp
theorem p256 (j : Int) (h0 : 0 ≤ j) (h1 : j ≤ 3) : (256 : Int) ^ j.toNat ≠ 0 ∧ ((256 : Int) ^ j.toNat).natAbs.log2 < 9000 := by
  exact int_cases (P := fun v => (256 : Int) ^ v.toNat ≠ 0 ∧ ((256 : Int) ^ v.toNat).natAbs.log2 < 9000) 4 (by decide) h0 (Int.lt_of_le_of_lt h1 (by decide))
theorem fmod256 (x : Int) : 0 ≤ x.fmod 256 ∧ x.fmod 256 < 256 := ⟨Int.fmod_nonneg_of_pos _ (by decide), Int.fmod_lt_of_pos _ (by decide)⟩
theorem con_row (w : World) (news : Led) (num : Int) (t u v : Tok) (n : Nat) (b : Bool) (h0 : 0 ≤ num) (h1 : num ≤ 2000000) (hn : n ≤ 4) :
    Con w 278 [.int num t, .int (n : Int) u, .str (Str.ofString (ordS b)) v] 60 600 news (fun k => ∀ b' t' ks, KBw.bInts b' = ks → ks.length ≤ 4 → k (.bytes b' t') news) := by
  k_with_none
  k_with "binaryOp FloorDiv int int" => (k_here; (with_reducible refine floordiv_int ?z20kbe ?_ (Or.inl (PyProof.noPylong_of_log2 ?z20kbp))); (case z20kbe => exact (p256 _ (by assumption) (by assumption)).1); (case z20kbp => exact (p256 _ (by assumption) (by assumption)).2))
  k_with_none
  k_with "binaryOp FloorDiv int int" => (k_here; (with_reducible refine floordiv_int ?z20kbe ?_ (Or.inl (PyProof.noPylong_of_log2 ?z20kbp))); (case z20kbe => exact (p256 _ (by assumption) (by assumption)).1); (case z20kbp => exact (p256 _ (by assumption) (by assumption)).2))
  refine' Con.enterC [(Str.ofString "number", .int num t), (Str.ofString "size", .int (n : Int) u), (Str.ofString "order", .str (Str.ofString (ordS b)) v)] 59 597 ?k6 ?k7 ?kd ?ku ?k9 ?kB ?kD ?_ ?c2 ?c3 ?c4
  case k6 => k_is
  case k7 => k_is
  case kd => decide
  case ku => decide
  case k9 => intro s9 X9; first | exact BindsTo.of_eq rfl | exact binds_K (by k_in) rfl (by k_is) rfl rfl rfl
  case kB => exact rfl
  case kD => decide +kernel
  case c2 => exact rfl
  case c3 => exact rfl
  case c4 => exact rfl
  intro loose mean mg mb dp un gd outer A₀ base g' h' L' q0 gg dd oo tk0 cells' k0 B' X' T' hdp hun F' N' Y' l1 hret lv
  refine nameAE ?_
  intro Av Ev
  obtain ⟨oc1, hE, dc1⟩ := CellsAre.one Y'
  subst hE
  clear Y'
  replace dc1 : oc1.data = .cell (some (.int num t)) := dc1.trans (by rfl)
  simp only [List.cons_append, List.nil_append] at N'
  replace F' : Fr g' L' h' (fun y => if y = Str.ofString "order" then some (.str (Str.ofString (ordS b)) v) else if y = Str.ofString "size" then some (.int (n : Int) u) else none) := fr_eq F' (by rfl)
  (try dsimp only)
  (try k_fold)
  k_with "exec Assign cons ListComp" => (k_dflt (refine Assign_ListComp_J (by k_asm) (by rfl) (by with_unfolding_all rfl) (by with_unfolding_all rfl) (by decide) (by rfl) (by decide) (by rfl) (by rfl) ?_))
  k_steps
  k_dflt (refine comp_range (by rfl) (by k_asm) (by k_asm) (by assumption) (small_one (by omega) (by omega) (by omega) (by omega)) (rangeSize_nat _ _) (by rw [sizeLine_eq]; omega) (by rfl) (by rfl) (fun i ys n₁ => ∃ us, n₁ = (L' + 1, oc1) :: news ∧ IntsAre ys us ∧ us.length = i ∧ ∀ c ∈ us, 0 ≤ c ∧ c < 256) ⟨[], rfl, .nil, rfl, (fun _ h => nomatch h)⟩ ?turn ?fin)
  case turn =>
    intro g9 i ys n₁ own C D oC m₂ h9 tk9 E9 hi9 hz hJ hoff hw hown hoC F9 N9
    obtain ⟨us, rfl, hys, hul, hus⟩ := hJ
    obtain ⟨x, ⟨tx, rfl⟩, hx⟩ := hz
    (try dsimp only)
    simp only [List.cons_append] at N9
    obtain ⟨rest, hrest⟩ : ∃ r, r = news ++ own := ⟨_, rfl⟩
    rw [← hrest] at N9
    refine tests_ce ?_
    intro qc hqc
    (try dsimp only)
    obtain ⟨j, hj, hj0, hj1⟩ : ∃ j : Int, 0 + (i : Int) * 1 = j ∧ 0 ≤ j ∧ j ≤ 3 := ⟨_, rfl, by omega, by omega⟩
    rw [hj] at hx
    clear hj
    k_steps
    all_goals (try subst hrest)
    refine CE.go hqc (n' := (L' + 1, oc1) :: news) (by k_asm) (ce_back (by k_asm)) hoff ⟨_, rfl, ints_snoc hys _ _, (by rw [List.length_append, hul]; rfl), in_snoc hus (fmod256 _)⟩
  case fin =>
    rintro g9 tk9 ys n₁ ⟨us, rfl, hys, hul, hus⟩ D h9 tk9 F9 N9 hD
    (try dsimp only)
    have hyl := IntsAre.length hys
    have hul4 : us.length = n := hul.trans to_nat00
    have hrl4 : us.reverse.length = n := List.length_reverse.trans hul4
    clear hul
    have hur := in_rev hus
    have hDc : @Ne Nat (L' + 1) D := hD _ (.head _)
    k_steps
    all_goals exact lv.go (hret _ _ _ (KBa.ints_make (by assumption)) (by (try rw [List.length_reverse]); omega)) (by k_asm) (news_sub (by k_asm) (by first | exact sub_tpn2 (x := [_, _]) | exact sub_tpn2 (x := [_, _, _])))
-- PS
example : True := by w_top off; k_with_none; trivial
noncomputable def RowIs (led : Led) (v : Value) (r : List Int × String) : Prop := ∃ a b t u, v = .ref a ∧ (a, tupO [.bytes b t, .str (Str.ofString r.2) u]) ∈ led ∧ KBw.bInts b = r.1
inductive RowsAre (led : Led) : List Value → List (List Int × String) → Prop
  | nil : RowsAre led [] []
  | cons {v : Value} {vs : List Value} {r : List Int × String} {rs : List (List Int × String)} : RowIs led v r → RowsAre led vs rs → RowsAre led (v :: vs) (r :: rs)
theorem RowIs.sub {a b : Led} {v : Value} {r : List Int × String} (h : RowIs a v r) (hs : ∀ p ∈ a, p ∈ b) : RowIs b v r := by
  obtain ⟨x, y, t, u, e, hm, hb⟩ := h
  exact ⟨x, y, t, u, e, hs _ hm, hb⟩
theorem RowsAre.sub {a b : Led} {vs : List Value} {rs : List (List Int × String)} (h : RowsAre a vs rs) (hs : ∀ p ∈ a, p ∈ b) : RowsAre b vs rs := by
  induction h with
  | nil => exact .nil
  | cons h _ ih => exact .cons (h.sub hs) ih
theorem RowsAre.snoc {a : Led} {vs : List Value} {rs : List (List Int × String)} {v : Value} {r : List Int × String} (h : RowsAre a vs rs) (hr : RowIs a v r) : RowsAre a (vs ++ [v]) (rs ++ [r]) := by
  induction h with
  | nil => exact .cons hr .nil
  | cons h _ ih => exact .cons h ih
theorem RowsAre.app {a : Led} {vs vs' : List Value} {rs rs' : List (List Int × String)} (h : RowsAre a vs rs) (hr : RowsAre a vs' rs') : RowsAre a (vs ++ vs') (rs ++ rs') := by
  induction h with
  | nil => exact hr
  | cons h _ ih => exact .cons h ih
theorem RowsAre.length {a : Led} {vs : List Value} {rs : List (List Int × String)} (h : RowsAre a vs rs) : vs.length = rs.length := by
  induction h with
  | nil => rfl
  | cons _ _ ih => exact congrArg Nat.succ ih
theorem RowsAre.item {a : Led} {vs : List Value} {rs : List (List Int × String)} (h : RowsAre a vs rs) {i : Nat} {v : Value} (e : vs[i]? = some v) : i < rs.length ∧ RowIs a v (rs.getD i ([], "")) := by
  induction h generalizing i with
  | nil => cases e
  | cons a b ih =>
    cases i with
    | zero => obtain rfl := Option.some.inj e; exact ⟨Nat.zero_lt_succ _, a⟩
    | succ i => obtain ⟨h1, h2⟩ := ih (i := i) (by simpa using e); exact ⟨Nat.succ_lt_succ h1, by simpa using h2⟩
theorem wrapR {R : Prop} {g h : Heap} {L Dr : Addr} {led news : Led} {m : Str → Option Value} {vals : List Value} {rs : List (List Int × String)} (N : News g L h led) (F : Fr g L h m) (e : m (Str.ofString "rows") = some (.ref Dr)) (hm : (Dr, listOf vals.toArray 0) ∈ led) (hR : RowsAre led vals rs) (hs : ∀ p ∈ news, p ∈ led)
    (k : ∀ led0 vals, News g L h led0 → (Dr, listOf vals.toArray 0) ∈ led0 → RowsAre led0 vals rs → (∀ p ∈ news, p ∈ led0) → R) : R := k _ _ N hm hR hs
theorem sub_ce {t d c : Addr × Obj} {a own : Led} : ∀ p ∈ (t :: a) ++ (d :: c :: own), p ∈ t :: d :: c :: (a ++ own) := fun p hp => by
  simp only [List.mem_append, List.mem_cons] at hp ⊢
  rcases hp with (h | h) | h | h | h
  · exact .inl h
  · exact .inr (.inr (.inr (.inl h)))
  · exact .inr (.inl h)
  · exact .inr (.inr (.inl h))
  · exact .inr (.inr (.inr (.inr h)))
theorem sub_own {d c : Addr × Obj} {a own : Led} : ∀ p ∈ d :: c :: own, p ∈ d :: c :: (a ++ own) := fun p hp => by
  simp only [List.mem_append, List.mem_cons] at hp ⊢
  rcases hp with h | h | h
  · exact .inl h
  · exact .inr (.inl h)
  · exact .inr (.inr (.inr h))
theorem all_lt2 {a : Addr × Obj} {r : Led} {d : Addr} (h1 : a.1 < d) (h2 : ∀ p ∈ r, p.1 < d) : ∀ p ∈ a :: r, p.1 < d := fun p hp => by
  rcases List.mem_cons.mp hp with rfl | hp
  · exact h1
  · exact h2 p hp
noncomputable def rows9 : List (List Int × String) := [([0, 0, 254, 255], "utf-32be"), ([255, 254, 0, 0], "utf-32le"), ([239, 187, 191], "utf-8"), ([254, 255], "utf-16be"), ([255, 254], "utf-16le"), ([14, 254, 255], "scsu"), ([251, 238, 40], "bocu-1"), ([132, 49, 149, 51], "gb18030"), ([221, 115, 102, 115], "utf-ebcdic")]
noncomputable def rows4 : List (List Int × String) := [([43, 47, 118, 56], "utf-7"), ([43, 47, 118, 57], "utf-7"), ([43, 47, 118, 43], "utf-7"), ([43, 47, 118, 47], "utf-7")]
noncomputable def rowsM : List (List Int × String) := rows9 ++ rows4
noncomputable def last4 : List Int := [56, 57, 43, 47]
theorem row4_snoc : ∀ i, i < 4 → rows4.take (i + 1) = rows4.take i ++ [([43, 47, 118] ++ [last4.getD i 0], "utf-7")] := by decide
theorem bytes4 {t0 t1 t2 t3 : Tok} : ∀ {i : Nat} {v : Value}, [Value.bytes #[56] t0, .bytes #[57] t1, .bytes #[43] t2, .bytes #[47] t3][i]? = some v → i < 4 ∧ ∃ b t, v = .bytes b t ∧ KBw.bInts b = [last4.getD i 0]
  | 0, _, h => ⟨by decide, _, _, (Option.some.inj h).symm, rfl⟩
  | 1, _, h => ⟨by decide, _, _, (Option.some.inj h).symm, rfl⟩
  | 2, _, h => ⟨by decide, _, _, (Option.some.inj h).symm, rfl⟩
  | 3, _, h => ⟨by decide, _, _, (Option.some.inj h).symm, rfl⟩
  | _ + 4, _, h => nomatch h
theorem con_marks (w : World) (news : Led) (hz : 0 = 0) :
    Con w 174 [] 30 300 news (fun k => ∀ l vs n led, RowsAre led vs rowsM → (∀ p ∈ news, p ∈ led) → k (.ref l) ((l, listOf vs.toArray n) :: led)) := by
  k_with_none
  k_with_none
  refine' Con.enter [] [] 29 297 rfl ?k6 ?k7 ?kd ?ku ?k9 ?kB ?_ ?c2 ?c3 ?c4 ?c5
  case k6 => k_is
  case k7 => k_is
  case kd => decide
  case ku => decide
  case k9 => intro s9 X9; first | exact BindsTo.of_eq rfl | exact binds_K (by k_in) rfl (by k_is) rfl rfl rfl
  case c5 => decide
  case kB => exact locs rfl
  case c2 => exact rfl
  case c3 => exact rfl
  case c4 => exact rfl
  intro loose mean mg mb dp un gd outer A₀ base g' h' L' q0 gg dd oo tk0 k0 B' X' T' hdp hun F' N' hret lv
  refine nameAE ?_
  intro Av Ev
  k_with "eval ListComp" => (k_dflt (refine ListComp_J (by k_asm) (by with_unfolding_all rfl) (by decide) (by rfl) (by decide) ?_))
  k_steps
  rename News _ _ _ ((_, _) :: (_, _) :: _) => hN9
  refine wrapR (news := news) (rs := rows9) hN9 (by k_asm) (by rfl) (by k_mem) (.cons ⟨_, _, _, _, rfl, by k_mem, by rfl⟩ (.cons ⟨_, _, _, _, rfl, by k_mem, by rfl⟩ (.cons ⟨_, _, _, _, rfl, by k_mem, by rfl⟩ (.cons ⟨_, _, _, _, rfl, by k_mem, by rfl⟩ (.cons ⟨_, _, _, _, rfl, by k_mem, by rfl⟩ (.cons ⟨_, _, _, _, rfl, by k_mem, by rfl⟩ (.cons ⟨_, _, _, _, rfl, by k_mem, by rfl⟩ (.cons ⟨_, _, _, _, rfl, by k_mem, by rfl⟩ (.cons ⟨_, _, _, _, rfl, by k_mem, by rfl⟩ (.nil)))))))))) (fun p hp => by k_mem) fun led0 vals hN0 hDr hR0 hs0 => ?_
  k_dflt (refine comp_tuple (by rfl) (by k_asm) hN0 ⟨_, (hN9 _ (.head _)).1, rfl, _, rfl⟩ (hN9 _ (.head _)).2.1 (by rw [sizeLine_eq]; simp) (by rfl) (by rfl) (fun i ys n₁ => ∃ own1, n₁ = own1 ++ led0 ∧ RowsAre own1 ys (rows4.take i)) ⟨[], rfl, .nil⟩ ?turn ?fin)
  case turn =>
    clear hN9
    intro g9 i ys n₁ own C D oC m₂ h9 tk9 E9 hi9 hz hJ hoff hw hown hoC F9 N9
    obtain ⟨own1, rfl, hys⟩ := hJ
    obtain ⟨x, hx, hxx⟩ := hz
    obtain ⟨hlt, b, t, rfl, hb⟩ := bytes4 hx
    obtain ⟨rest, hrest⟩ : ∃ r, r = own1 ++ led0 ++ own := ⟨_, rfl⟩
    rw [← hrest] at N9
    refine tests_ce ?_
    intro qc hqc
    (try dsimp only)
    clear hN0 hR0 hDr
    k_steps
    rename KBw.bInts (_ ++ _) = _ => hApp
    rename _ < _ ∧ _ => hLt
    have hq := tb_ltOf hLt.2.2
    subst hrest
    refine CE.go hqc (n' := (_, _) :: (own1 ++ led0)) (by k_asm) (news_sub (by k_asm) sub_ce) (Off.cons (off_new hw (l := (D, _) :: (C, _) :: (own1 ++ led0 ++ own)) sub_own ?_) hoff) ⟨(_, _) :: own1, rfl, ?_⟩
    · exact all_lt2 hLt.1 (all_lt2 hLt.2.1 hq)
    · rw [row4_snoc i hlt]
      exact (hys.sub fun p hp => .tail _ hp).snoc ⟨_, _, _, _, rfl, .head _, hApp⟩
  case fin =>
    rintro g9 tk9 ys n₁ ⟨own1, rfl, hys⟩ D h9 tk9 F9 N9 hD
    have hvl : vals.length = 9 := hR0.length
    have hyl : ys.length = 4 := hys.length
    have hR9 : RowsAre (own1 ++ led0) (vals ++ ys) rowsM := (hR0.sub fun p hp => List.mem_append_right _ hp).app (hys.sub fun p hp => List.mem_append_left _ hp)
    have hs9 : ∀ p ∈ news, p ∈ own1 ++ led0 := fun p hp => List.mem_append_right _ (hs0 p hp)
    clear hR0 hys hs0
    (try dsimp only)
    obtain ⟨rest, hrest⟩ : ∃ r, r = own1 ++ led0 := ⟨_, rfl⟩
    rw [← hrest] at hR9 hs9
    have hDr9 := hrest ▸ List.mem_append_right own1 hDr
    rw [← hrest] at N9
    clear hN9 hDr hN0
    k_steps
    exact lv.go (hret _ _ 0 _ hR9 hs9) (by k_asm) (news_sub (a := (_, _) :: (_, _) :: _) (by assumption) sub_2)
-- PGC
example : True := by w_top off; k_with_none; trivial
theorem sub_tpn3 {x c : Led} : ∀ p ∈ c, p ∈ x ++ c := fun _ hp => List.mem_append_right _ hp
theorem Kp.shape5 {x1 x2 x3 x4 x5 : Str} {b m : Str → Option Value} (h : Kp [x1, x2, x3, x4, x5] b m) : ∃ c1 c2 c3 c4 c5, m = setO (setO (setO (setO (setO b x5 c5) x4 c4) x3 c3) x2 c2) x1 c1 := by
  obtain ⟨c, m', h', rfl⟩ := h.more
  obtain ⟨c2, c3, c4, c5, rfl⟩ := h'.shape4
  exact ⟨c, c2, c3, c4, c5, rfl⟩
theorem be_le {t0 t1 : Tok} : ∀ {i : Nat} {v : Value}, [Value.str (Str.ofString "be") t0, .str (Str.ofString "le") t1][i]? = some v → ∃ b u, v = .str (Str.ofString (ordS b)) u ∧ (b = true ∧ i = 0 ∨ b = false ∧ i = 1)
  | 0, _, h => ⟨true, t0, (Option.some.inj h).symm, .inl ⟨rfl, rfl⟩⟩
  | 1, _, h => ⟨false, t1, (Option.some.inj h).symm, .inr ⟨rfl, rfl⟩⟩
  | _ + 2, _, h => nomatch h
theorem ord_be : ∀ {b : Bool}, (Str.ofString (ordS b) == Str.ofString "be") = b := by decide
theorem fdiv4 (n : Nat) : (n : Int).fdiv 4 = ((n / 4 : Nat) : Int) := Int.fdiv_eq_ediv_of_nonneg _ (by decide)
theorem size_q (n : Nat) : Builtin.Range.rangeSize 0 ((n : Int).fdiv 4) 1 = ((n / 4 : Nat) : Int) := by rw [rangeSize_nat, fdiv4]; exact congrArg Nat.cast to_nat00
theorem news_head {g h : Heap} {L a : Addr} {o : Obj} {r : Led} (_ : News g L h ((a, o) :: r)) : ∃ a', a' = a := ⟨a, rfl⟩
theorem fr_named {g h : Heap} {L : Addr} {m : Str → Option Value} (F : Fr g L h m) : ∃ m', m' = m ∧ Fr g L h m' := ⟨m, rfl, F⟩
theorem cut44 {ks : List Int} {i : Nat} (h : 4 * i + 4 ≤ ks.length) : (ks.drop (clipAt ks.length (4 * (i : Int)))).take (clipAt ks.length (4 * (i : Int) + 4) - clipAt ks.length (4 * (i : Int))) = [ks.getD (4 * i) 0, ks.getD (4 * i + 1) 0, ks.getD (4 * i + 2) 0, ks.getD (4 * i + 3) 0] := by
  have e1 : (4 * (i : Int)) = ((4 * i : Nat) : Int) := by omega
  have e2 : ((4 * i : Nat) : Int) + 4 = ((4 * i + 4 : Nat) : Int) := by omega
  rw [e1, e2, clipAt_nat, clipAt_nat, Nat.min_eq_left h, Nat.min_eq_left (by omega), ← len4 h]
  congr 1; omega
noncomputable def Quad (l : List Int) (a b c d : Int) : Prop := l.getD 0 0 = a ∧ l.getD 1 0 = b ∧ l.getD 2 0 = c ∧ l.getD 3 0 = d
theorem quad_code {l ks : List Int} {i : Nat} (h : Quad l (ks.getD i 0) (ks.getD (i + 1) 0) (ks.getD (i + 2) 0) (ks.getD (i + 3) 0)) : l.getD (Int.toNat 0) 0 * 16777216 + l.getD (Int.toNat 1) 0 * 65536 + l.getD (Int.toNat 2) 0 * 256 + l.getD (Int.toNat 3) 0 = codeAt ks i true := by
  obtain ⟨h1, h2, h3, h4⟩ := h
  show l.getD 0 0 * 16777216 + l.getD 1 0 * 65536 + l.getD 2 0 * 256 + l.getD 3 0 = _
  rw [h1, h2, h3, h4]; rfl
theorem quad_code2 {l ks : List Int} {i : Nat} (h : Quad l (ks.getD (i + 3) 0) (ks.getD (i + 2) 0) (ks.getD (i + 1) 0) (ks.getD i 0)) : l.getD (Int.toNat 0) 0 * 16777216 + l.getD (Int.toNat 1) 0 * 65536 + l.getD (Int.toNat 2) 0 * 256 + l.getD (Int.toNat 3) 0 = codeAt ks i false := by
  obtain ⟨h1, h2, h3, h4⟩ := h
  show l.getD 0 0 * 16777216 + l.getD 1 0 * 65536 + l.getD 2 0 * 256 + l.getD 3 0 = _
  rw [h1, h2, h3, h4]; rfl
theorem ints_snocE {vs : List Value} {us : List Int} {x y : Int} {t : Tok} (h : IntsAre vs us) (e : x = y) : IntsAre (vs ++ [.int x t]) (us ++ [y]) := e ▸ ints_snoc h x t
theorem filt_yes {us : List Int} {i : Nat} {p : Int → Bool} (h : i < us.length) (hp : p (us.getD i 0) = true) : (us.take (i + 1)).filter p = (us.take i).filter p ++ [us.getD i 0] := by
  rw [take_snoc h, List.filter_append, List.filter_cons_of_pos hp]; rfl
theorem filt_no {us : List Int} {i : Nat} {p : Int → Bool} (h : i < us.length) (hp : p (us.getD i 0) = false) : (us.take (i + 1)).filter p = (us.take i).filter p := by
  rw [take_snoc h, List.filter_append, List.filter_cons_of_neg (by rw [hp]; decide), List.filter_nil, List.append_nil]
theorem ne_nilI {prog : Program} {w : World} {A : Around} {E : Value → Shared → Prop} {s : Shared} {h₀ : Heap} {L l l' : Addr} {news : Led} {vs : List Value} {us : List Int} {n n' : Nat} {Q : Value → Shared → Prop} (N : News h₀ L s.heap news) (h1 : (l, listOf vs.toArray n) ∈ news) (h2 : (l', listOf #[] n') ∈ news) (hi : IntsAre vs us) (hu : A.units < cLine) (h : Q (.bool (!decide (us = []))) s) :
    wpAny (model prog w) A (compareOp .NotEq (.ref l) (.ref l')) Q E s := by
  cases hi with
  | nil => exact SeqAt.RcNeAt.lists (e := fun _ => true) (N.isList h1) (N.isList h2) rfl hu (fun j h1 _ => absurd h1 (Nat.not_lt_zero _)) prog w E Q h
  | cons => exact SeqAt.RcNeAt.lists_lengths (N.isList h1) (N.isList h2) (by simp) hu prog w E Q (by simpa using h)
theorem next_hit {ks : List Int} {b : Bool} {i n : Nat} (hb : b = true ∧ i = 0 ∨ b = false ∧ i = 1) (h1 : 0 < i → hit32 (qsL ks true n) = false) (h : hit32 (qsL ks b n) = false) : (0 < i + 1 → hit32 (qsL ks true n) = false) ∧ (1 < i + 1 → hit32 (qsL ks false n) = false) := by
  rcases hb with ⟨rfl, rfl⟩ | ⟨rfl, rfl⟩
  · exact ⟨fun _ => h, fun h => absurd h (by decide)⟩
  · exact ⟨fun _ => h1 (by decide), fun _ => h⟩
theorem add32 {prog : Program} {w : World} {A : Around} {E : Value → Shared → Prop} {s : Shared} {Q : Value → Shared → Prop} {t u : Tok} {b : Bool} (h : ∀ t' k, Q (.str (Str.ofString ("utf-32" ++ ordS b)) t') { s with toks := k }) : wpAny (model prog w) A (binaryOp .Add (.str (Str.ofString "utf-32") t) (.str (Str.ofString (ordS b)) u)) Q E s := by
  have e : Str.ofString "utf-32" ++ Str.ofString (ordS b) = Str.ofString ("utf-32" ++ ordS b) := by cases b <;> decide +kernel
  exact PyProof.Rows.add_str (fun t' k => by rw [e]; exact h t' k) (by rw [sizeLine_eq]; cases b <;> decide +kernel)
noncomputable def PairsAre (led : Led) (ys : List Value) (ks : List Int) (n : Nat) : Prop := ys.length = n ∧ ∀ (j : Nat) (v : Value), ys[j]? = some v → ∃ T t u, v = .ref T ∧ (T, tupO [.int (ks.getD (2 * j) 0) t, .int (ks.getD (2 * j + 1) 0) u]) ∈ led
theorem PairsAre.nil {led : Led} {ks : List Int} : PairsAre led [] ks 0 := ⟨rfl, fun _ _ h => nomatch h⟩
theorem PairsAre.sub {a b : Led} {ys : List Value} {ks : List Int} {n : Nat} (h : PairsAre a ys ks n) (hs : ∀ p ∈ a, p ∈ b) : PairsAre b ys ks n := ⟨h.1, fun j v e => by
  obtain ⟨T, t, u, e, hm⟩ := h.2 j v e
  exact ⟨T, t, u, e, hs _ hm⟩⟩
theorem PairsAre.snoc {a : Led} {ys : List Value} {ks : List Int} {n : Nat} {T : Addr} {t u : Tok} {x y : Int} (h : PairsAre a ys ks n) (hm : (T, tupO [.int x t, .int y u]) ∈ a) (e1 : x = ks.getD (2 * n) 0) (e2 : y = ks.getD (2 * n + 1) 0) : PairsAre a (ys ++ [.ref T]) ks (n + 1) := by
  subst e1 e2
  refine ⟨by rw [List.length_append, h.1]; rfl, fun j v e => ?_⟩
  by_cases hj : j < ys.length
  · rw [List.getElem?_append_left hj] at e
    exact h.2 j v e
  · rw [List.getElem?_append_right (Nat.le_of_not_lt hj)] at e
    have e0 : j - ys.length = 0 := by
      cases hq : j - ys.length with
      | zero => rfl
      | succ k => rw [hq] at e; cases e
    rw [e0] at e
    have ej : j = n := snoc_at hj e0 h.1
    subst ej
    exact ⟨T, t, u, (Option.some.inj e).symm, hm⟩
theorem len9 {prog : Program} {w : World} {A : Around} {E : Value → Shared → Prop} {s : Shared} {Q : Value → Shared → Prop} {h₀ : Heap} {L l : Addr} {news : Led} {vs : List Value} {c : Nat} (N : News h₀ L s.heap news) (hm : (l, lst vs) ∈ news) (hc : vs.length = c) (hb : c ≤ 1000) (h : ∀ t tk, Q (.int (c : Int) t) { s with toks := tk }) : wpAny (model prog w) A (call (.builtin "len") [.ref l]) Q E s := by
  subst hc
  have e : vs.toArray.size = vs.length := by simp
  refine len_list (N.isList (items := vs.toArray) hm) (by rw [e]; omega) ?_
  rw [e]
  exact h _ _
theorem slice4_K {prog : Program} {w : World} {A : Around} {E : Value → Shared → Prop} {s : Shared} {value slice : PySem.Expr} {b : Array UInt8} {t tl tu : Tok} {h₀ : Heap} {L : Addr} {m : PySem.Str → Option Value} {news : List (Addr × Obj)} {Q : Value → Shared → Prop} {ks : List Int} {i : Nat} (hF : Fr h₀ L s.heap m) (hN : News h₀ L s.heap news) (hk : KBw.bInts b = ks) (hz : ks.length ≤ 16777216) (hi : 4 * i + 4 ≤ ks.length)
    (h : ∀ b' l4 h' t' k, Fr h₀ L h' m → News h₀ L h' news → KBw.bInts b' = l4 → l4.length = 4 → Quad l4 (ks.getD (4 * i) 0) (ks.getD (4 * i + 1) 0) (ks.getD (4 * i + 2) 0) (ks.getD (4 * i + 3) 0) → Q (.bytes b' t') { s with heap := h', toks := k })
    (hs : subscripted slice false (.bytes b t) (.ref s.heap.objs.size) = operate [.ref s.heap.objs.size, .bytes b t] (getItem (.bytes b t) (.ref s.heap.objs.size)) := by with_unfolding_all rfl)
    (ht : ∀ r, letTemporaryGo value (.bytes b t) r = pure () := by intro _; with_unfolding_all rfl) :
    wpAny (model prog w) A (subscriptTail value slice (.bytes b t) (.ref s.heap.objs.size)) Q E { s with heap := s.heap.push { cls := .type "slice", data := .fields #[.int (4 * (i : Int)) tl, .int (4 * (i : Int) + 4) tu, .none] } } :=
  KBc.slice_K hF hN hk (.int _ _) (.int _ _) hz (fun h' t' k F' N' e => h _ _ h' t' k F' N' (e.trans (cut44 hi)) rfl ⟨rfl, rfl, rfl, rfl⟩) hs ht
theorem rev4_K {prog : Program} {w : World} {A : Around} {E : Value → Shared → Prop} {s : Shared} {value slice : PySem.Expr} {b : Array UInt8} {t u : Tok} {h₀ : Heap} {L : Addr} {m : PySem.Str → Option Value} {news : List (Addr × Obj)} {Q : Value → Shared → Prop} {l4 : List Int} {a0 a1 a2 a3 : Int} (hF : Fr h₀ L s.heap m) (hN : News h₀ L s.heap news) (hk : KBw.bInts b = l4) (h4 : l4.length = 4) (hq : Quad l4 a0 a1 a2 a3)
    (h : ∀ b' l4 h' t' k, Fr h₀ L h' m → News h₀ L h' news → KBw.bInts b' = l4 → l4.length = 4 → Quad l4 a3 a2 a1 a0 → Q (.bytes b' t') { s with heap := h', toks := k })
    (hs : subscripted slice false (.bytes b t) (.ref s.heap.objs.size) = operate [.ref s.heap.objs.size, .bytes b t] (getItem (.bytes b t) (.ref s.heap.objs.size)) := by with_unfolding_all rfl)
    (ht : ∀ r, letTemporaryGo value (.bytes b t) r = pure () := by intro _; with_unfolding_all rfl) :
    wpAny (model prog w) A (subscriptTail value slice (.bytes b t) (.ref s.heap.objs.size)) Q E { s with heap := s.heap.push { cls := .type "slice", data := .fields #[.none, .none, .int (-1) u] } } :=
  rev_K hF hN hk (by omega) (fun h' t' k F' N' e => h _ _ h' t' k F' N' e (by rw [List.length_reverse]; exact h4) (by
    have e : ∀ k, k < 4 → l4.reverse.getD k 0 = l4.getD (3 - k) 0 := fun k hk => by
      rw [List.getD_eq_getElem?_getD, List.getD_eq_getElem?_getD, List.getElem?_reverse (by rw [h4]; exact hk), h4]
    exact ⟨(e 0 (by decide)).trans hq.2.2.2, (e 1 (by decide)).trans hq.2.2.1, (e 2 (by decide)).trans hq.2.1, (e 3 (by decide)).trans hq.1⟩)) hs ht
inductive JGa (L' : Addr) (o1 : Obj) (news : Led) (ks1 : List Int) (many : Int) (u : Tok) (b : Array UInt8) (t : Tok) (i : Nat) (m₁ : Str → Option Value) (n₁ : Led) : Prop
  | mk : (n₁ = (L' + 1, o1) :: news) → ((0 < i → hit32 (qsL ks1 true (ks1.length / 4)) = false)) → ((1 < i → hit32 (qsL ks1 false (ks1.length / 4)) = false)) → (Kp [Str.ofString "order", Str.ofString "numbers", Str.ofString "k", Str.ofString "part", Str.ofString "good"] (fun y => if y = Str.ofString "many" then some (Value.int many u) else if y = Str.ofString "octets" then some (Value.bytes b t) else none) m₁) → JGa L' o1 news ks1 many u b t i m₁ n₁
inductive JGb (l8 : Addr) (L' : Addr) (o1 : Obj) (rest : Led) (ks1 : List Int) (bo : Bool) (mb : Str → Option Value) (j : Nat) (m₁ : Str → Option Value) (n₂ : Led) : Prop
  | mk : ∀ vs' n', (n₂ = (l8, listOf vs'.toArray n') :: (L' + 1, o1) :: rest) → (IntsAre vs' (qsL ks1 bo j)) → (Kp [Str.ofString "k", Str.ofString "part"] mb m₁) → JGb l8 L' o1 rest ks1 bo mb j m₁ n₂
inductive PartR (g : Heap) (L' : Addr) (m : Str → Option Value) (news : Led) (q : List Int → Prop) (s : Shared) (f : Flow) (s' : Shared) : Prop
  | mk : ∀ h tk b t l, f = .next → s' = { s with heap := h, toks := tk } → Fr g L' h (setN m (Str.ofString "part") (.bytes b t)) → News g L' h news → KBw.bInts b = l → l.length = 4 → q l → PartR g L' m news q s f s'
theorem part_cut {M : Model} {A : Around} {t : Sem Flow} {Q : Flow → Shared → Prop} {E : Value → Shared → Prop} {s : Shared} {g : Heap} {L : Addr} {m : Str → Option Value} {news : Led} {q : List Int → Prop} (F : Fr g L s.heap m) (N : News g L s.heap news) (h : wpAny M A t (PartR g L m news q s) E s) (k : ∀ f s', PartR g L m news q s f s' → Q f s') : wpAny M A t Q E s := wpAny_mono h k fun _ _ x => x
theorem con_guess (w : World) (news : Led) (b : Array UInt8) (t u : Tok) (ks : List Int) (many : Int) (hb : KBw.bInts b = ks) (hlen : ks.length ≤ 100) (h0 : 0 ≤ many) (h1 : many ≤ 64) :
    Con w 283 [.bytes b t, .int many u] 100 1000 news (fun k => GuessP k news (guessS (ks.take (clipAt ks.length (many.fdiv 4 * 4))))) := by
  k_with_none
  k_with "compareOp NotEq ref ref" => (k_here; (with_reducible show wpAny _ _ (compareOp CmpOp.NotEq (Value.ref _) (Value.ref _)) _ _ _); k_dflt (refine' ne_nilI ?z21N ?z21a ?z21b ?z21i ?z21u ?_; (case z21N => k_asm); (case z21a => k_mem); (case z21b => k_mem); (case z21i => assumption); (case z21u => ke_room)))
  k_with "binaryOp Add str str" => (k_here; (with_reducible show wpAny _ _ (binaryOp Operator.Add (Value.str _ _) (Value.str (Str.ofString (ordS _)) _)) _ _ _); (refine add32 ?_); intro _ _)
  k_with "call builtin:len" => (k_here; (with_reducible show wpAny _ _ (call (Value.builtin "len") [Value.ref _]) _ _ _); k_dflt (refine' len9 ?z23N ?z23a ?z23c ?z23b ?_; (case z23N => k_asm); (case z23a => k_mem); (case z23c => assumption); (case z23b => omega); intro _ _))
  k_with "subscriptTail" => (k_here; (with_reducible show wpAny _ _ (subscriptTail _ (Expr.Slice (some _) (some _) none _) (Value.bytes _ _) (Value.ref _)) _ _ _); (with_reducible rename Fr _ _ _ _ => zF); (with_reducible rename News _ _ _ _ => zN); (refine slice4_K (s := ⟨_, _, _, _, _⟩) zF zN (by kba_ints) (by omega) (by omega) ?_); intro _ _ _ _ _ _ _ _ _ _)
  k_with "subscriptTail" => (k_here; (with_reducible show wpAny _ _ (subscriptTail _ (Expr.Slice none none (some _) _) (Value.bytes _ _) (Value.ref _)) _ _ _); (with_reducible rename Fr _ _ _ _ => zF); (with_reducible rename News _ _ _ _ => zN); (refine rev4_K (s := ⟨_, _, _, _, _⟩) zF zN (by assumption) (by assumption) (by assumption) ?_); intro _ _ _ _ _ _ _ _ _ _)
  k_with_none
  k_with "compareOp NotEq ref ref" => (k_here; (with_reducible show wpAny _ _ (compareOp CmpOp.NotEq (Value.ref _) (Value.ref _)) _ _ _); k_dflt (refine' ne_nilI ?z21N ?z21a ?z21b ?z21i ?z21u ?_; (case z21N => k_asm); (case z21a => k_mem); (case z21b => k_mem); (case z21i => assumption); (case z21u => ke_room)))
  k_with "binaryOp Add str str" => (k_here; (with_reducible show wpAny _ _ (binaryOp Operator.Add (Value.str _ _) (Value.str (Str.ofString (ordS _)) _)) _ _ _); (refine add32 ?_); intro _ _)
  k_with "call builtin:len" => (k_here; (with_reducible show wpAny _ _ (call (Value.builtin "len") [Value.ref _]) _ _ _); k_dflt (refine' len9 ?z23N ?z23a ?z23c ?z23b ?_; (case z23N => k_asm); (case z23a => k_mem); (case z23c => assumption); (case z23b => omega); intro _ _))
  k_with "subscriptTail" => (k_here; (with_reducible show wpAny _ _ (subscriptTail _ (Expr.Slice (some _) (some _) none _) (Value.bytes _ _) (Value.ref _)) _ _ _); (with_reducible rename Fr _ _ _ _ => zF); (with_reducible rename News _ _ _ _ => zN); (refine slice4_K (s := ⟨_, _, _, _, _⟩) zF zN (by kba_ints) (by omega) (by omega) ?_); intro _ _ _ _ _ _ _ _ _ _)
  k_with "subscriptTail" => (k_here; (with_reducible show wpAny _ _ (subscriptTail _ (Expr.Slice none none (some _) _) (Value.bytes _ _) (Value.ref _)) _ _ _); (with_reducible rename Fr _ _ _ _ => zF); (with_reducible rename News _ _ _ _ => zN); (refine rev4_K (s := ⟨_, _, _, _, _⟩) zF zN (by assumption) (by assumption) (by assumption) ?_); intro _ _ _ _ _ _ _ _ _ _)
  refine' Con.enterC [(Str.ofString "octets", .bytes b t), (Str.ofString "many", .int many u)] 99 997 ?k6 ?k7 ?kd ?ku ?k9 ?kB ?kD ?_ ?c2 ?c3 ?c4
  case k6 => k_is
  case k7 => k_is
  case kd => decide
  case ku => decide
  case k9 => intro s9 X9; first | exact BindsTo.of_eq rfl | exact binds_K (by k_in) rfl (by k_is) rfl rfl rfl
  case kB => exact rfl
  case kD => decide +kernel
  case c2 => exact rfl
  case c3 => exact rfl
  case c4 => exact rfl
  intro loose mean mg mb dp un gd outer A₀ base g' h' L' q0 gg dd oo tk0 cells' k0 B' X' T' hdp hun F' N' Y' l1 hret lv
  refine nameAE ?_
  intro Av Ev
  obtain ⟨oc1, hE, dc1⟩ := CellsAre.one Y'
  subst hE
  clear Y'
  replace dc1 : oc1.data = .cell (none) := dc1.trans (by rfl)
  simp only [List.cons_append, List.nil_append] at N'
  replace F' : Fr g' L' h' (fun y => if y = Str.ofString "many" then some (.int many u) else if y = Str.ofString "octets" then some (.bytes b t) else none) := fr_eq F' (by rfl)
  (try dsimp only)
  (try k_fold)
  k_with "exec For Name Tuple cons nil" => (k_dflt ((rename Fr _ _ _ _ => lF9); (with_unfolding_all refine' For_turns lF9 ?_; k_whole)))
  k_steps
  rename KBw.bInts (KBy.picked _ none _) = _ => hcut
  rename Obj.data _ = Data.cell (some (Value.bytes _ _)) => d1
  rename Obj => o1
  rename News _ _ _ _ => N7
  rename Fr _ _ _ _ => F7
  obtain ⟨ks1, hk1⟩ : ∃ x, x = List.take (clipAt ks.length (many.fdiv 4 * 4)) ks := ⟨_, rfl⟩
  rw [← hk1] at hcut hret
  have hkl1 : ks1.length ≤ 100 := by rw [hk1, List.length_take]; omega
  generalize KBy.picked b none (some (many.fdiv 4 * 4)) = bk at hcut d1
  clear hk1
  k_with_none
  k_with "compareOp NotEq ref ref" => (k_here; (with_reducible show wpAny _ _ (compareOp CmpOp.NotEq (Value.ref _) (Value.ref _)) _ _ _); k_dflt (refine' ne_nilI ?z21N ?z21a ?z21b ?z21i ?z21u ?_; (case z21N => k_asm); (case z21a => k_mem); (case z21b => k_mem); (case z21i => assumption); (case z21u => ke_room)))
  k_with "binaryOp Add str str" => (k_here; (with_reducible show wpAny _ _ (binaryOp Operator.Add (Value.str _ _) (Value.str (Str.ofString (ordS _)) _)) _ _ _); (refine add32 ?_); intro _ _)
  k_with "call builtin:len" => (k_here; (with_reducible show wpAny _ _ (call (Value.builtin "len") [Value.ref _]) _ _ _); k_dflt (refine' len9 ?z23N ?z23a ?z23c ?z23b ?_; (case z23N => k_asm); (case z23a => k_mem); (case z23c => assumption); (case z23b => omega); intro _ _))
  k_with "subscriptTail" => (k_here; (with_reducible show wpAny _ _ (subscriptTail _ (Expr.Slice (some _) (some _) none _) (Value.bytes _ _) (Value.ref _)) _ _ _); (with_reducible rename Fr _ _ _ _ => zF); (with_reducible rename News _ _ _ _ => zN); (refine slice4_K (s := ⟨_, _, _, _, _⟩) zF zN (by kba_ints) (by omega) (by omega) ?_); intro _ _ _ _ _ _ _ _ _ _)
  k_with "subscriptTail" => (k_here; (with_reducible show wpAny _ _ (subscriptTail _ (Expr.Slice none none (some _) _) (Value.bytes _ _) (Value.ref _)) _ _ _); (with_reducible rename Fr _ _ _ _ => zF); (with_reducible rename News _ _ _ _ => zN); (refine rev4_K (s := ⟨_, _, _, _, _⟩) zF zN (by assumption) (by assumption) (by assumption) ?_); intro _ _ _ _ _ _ _ _ _ _)
  k_dflt (refine for_tuple (by rfl) F7 (news_sub N7 (fun p hp => .tail _ hp)) ⟨_, (N7 _ (.head _)).1, rfl, _, rfl⟩ (N7 _ (.head _)).2.1.symm (JGa L' o1 news ks1 many u b t) ⟨rfl, (fun h => absurd h (Nat.lt_irrefl _)), (fun h => absurd h (by decide)), .refl⟩ ?turn ?fin)
  case turn =>
    intro i v m₁ n₁ own h9 tk9 hv hJ hoff hw hown F9 N9
    obtain ⟨rfl, hj1, hj2, hkp⟩ := hJ
    obtain ⟨c1, c2, c3, c4, c5, rfl⟩ := hkp.shape5
    obtain ⟨bo, uo, rfl, hbi⟩ := be_le hv
    clear N7 F7 hv
    obtain ⟨rest, hrest⟩ : ∃ r, r = news ++ own := ⟨_, rfl⟩
    rw [List.cons_append, ← hrest] at N9
    k_with "exec For Name Call cons nil" => (k_dflt ((rename Fr _ _ _ _ => lF9); (with_unfolding_all refine' For_turns lF9 ?_; k_whole)))
    k_steps
    rename Fr _ _ _ _ => F8
    rename News _ _ _ ((_, _) :: (L' + 1, o1) :: rest) => N8
    obtain ⟨l8, hl8⟩ := news_head N8
    subst hl8
    obtain ⟨mb, hmb, F8⟩ := fr_named F8
    rename L' + 1 < _ ∧ AllLt _ rest => hLt
    obtain ⟨hLt1, hLt2⟩ := hLt
    have hLt3 := tb_ltOf hLt2
    k_dflt (refine for_range (by rfl) F8 N8 (by assumption) (small_one (by omega) (by omega) (by rw [fdiv4]; omega) (by rw [fdiv4]; omega)) (size_q _) (JGb l8 L' o1 rest ks1 bo mb) ⟨[], 0, rfl, .nil, .refl⟩ ?turn2 ?fin2)
    case turn2 =>
      intro j tj m₁ n₂ own2 h8 tk8 hj hJ2 hoff2 hw2 hown2 F8 N8
      obtain ⟨vs', n', rfl, hvs, hkp2⟩ := hJ2
      obtain ⟨x1, x2, rfl⟩ := hkp2.shape2
      subst hmb
      have hvl := IntsAre.length hvs
      rw [qs_len] at hvl
      rw [show (0 : Int) + (j : Int) * 1 = (j : Int) by omega]
      obtain ⟨rest2, hrest2⟩ : ∃ r, r = rest ++ own2 := ⟨_, rfl⟩
      simp only [List.cons_append] at N8
      rw [← hrest2] at N8
      have hr8 : ∀ p ∈ rest2, p.1 ≠ l8 := hrest2 ▸ off_rest (fun p hp => Nat.ne_of_lt (hLt3 p hp)) hown2 (hoff2 _ (.head _))
      clear hkp2 hkp hw2 hown2 hw hown
      k_with "exec Assign cons IfExp" => (k_dflt (refine QStop.go ?_))
      k_steps
      unfold QStop
      k_with_none
      k_with "compareOp NotEq ref ref" => (k_here; (with_reducible show wpAny _ _ (compareOp CmpOp.NotEq (Value.ref _) (Value.ref _)) _ _ _); k_dflt (refine' ne_nilI ?z21N ?z21a ?z21b ?z21i ?z21u ?_; (case z21N => k_asm); (case z21a => k_mem); (case z21b => k_mem); (case z21i => assumption); (case z21u => ke_room)))
      k_with "binaryOp Add str str" => (k_here; (with_reducible show wpAny _ _ (binaryOp Operator.Add (Value.str _ _) (Value.str (Str.ofString (ordS _)) _)) _ _ _); (refine add32 ?_); intro _ _)
      k_with "call builtin:len" => (k_here; (with_reducible show wpAny _ _ (call (Value.builtin "len") [Value.ref _]) _ _ _); k_dflt (refine' len9 ?z23N ?z23a ?z23c ?z23b ?_; (case z23N => k_asm); (case z23a => k_mem); (case z23c => assumption); (case z23b => omega); intro _ _))
      k_with "subscriptTail" => (k_here; (with_reducible show wpAny _ _ (subscriptTail _ (Expr.Slice (some _) (some _) none _) (Value.bytes _ _) (Value.ref _)) _ _ _); (with_reducible rename Fr _ _ _ _ => zF); (with_reducible rename News _ _ _ _ => zN); (refine slice4_K (s := ⟨_, _, _, _, _⟩) zF zN (by kba_ints) (by omega) (by omega) ?_); intro _ _ _ _ _ _ _ _ _ _)
      k_with "subscriptTail" => (k_here; (with_reducible show wpAny _ _ (subscriptTail _ (Expr.Slice none none (some _) _) (Value.bytes _ _) (Value.ref _)) _ _ _); (with_reducible rename Fr _ _ _ _ => zF); (with_reducible rename News _ _ _ _ => zN); (refine rev4_K (s := ⟨_, _, _, _, _⟩) zF zN (by assumption) (by assumption) (by assumption) ?_); intro _ _ _ _ _ _ _ _ _ _)
      refine part_cut (q := fun l => l.getD (Int.toNat 0) 0 * 16777216 + l.getD (Int.toNat 1) 0 * 65536 + l.getD (Int.toNat 2) 0 * 256 + l.getD (Int.toNat 3) 0 = codeAt ks1 (4 * j) bo) (by k_asm) (by k_asm) ?first ?rest
      case first =>
        k_steps
        · rename Quad _ _ _ _ _ => hq4
          rename (_ == _) = true => hb9
          rw [ord_be] at hb9
          subst hb9
          exact ⟨_, _, _, _, _, rfl, rfl, (by k_asm), (by k_asm), by assumption, by assumption, quad_code hq4⟩
        · rename (_ == _) = false => hb9
          rw [ord_be] at hb9
          subst hb9
          rename Quad _ _ _ _ _ => hq4
          exact ⟨_, _, _, _, _, rfl, rfl, (by k_asm), (by k_asm), by assumption, by assumption, quad_code2 hq4⟩
      case rest =>
        clear N8
        clear F8
        rintro f s' ⟨h7, tk7, b7, t7, l7, rfl, rfl, F7, N7, hb7, hl7, hq7⟩
        have hin7 := at_in hb7
        k_steps
        subst hrest2
        rename News _ _ _ ((l8, _) :: _) => N99
        simp only [List.push_toArray] at N99
        refine TurnEnd.intro (n' := (l8, _) :: (L' + 1, o1) :: rest) (by k_asm) N99 (off_re hoff2) ⟨_, _, rfl, ?_, by walk_at "kp"⟩
        rw [qs_snoc]
        exact ints_snocE hvs hq7
    case fin2 =>
      rintro m₁ n₂ h8 tk8 ⟨vs', n', rfl, hvs, hkp2⟩ F8 N8
      obtain ⟨x1, x2, rfl⟩ := hkp2.shape2
      subst hmb
      have hvl := IntsAre.length hvs
      rw [qs_len] at hvl
      have hr8 : ∀ p ∈ rest, p.1 ≠ l8 := fun p hp => Nat.ne_of_lt (hLt3 p hp)
      have hql : (qsL ks1 bo (ks1.length / 4)).length ≤ 25 := by rw [qs_len]; omega
      generalize hqs : qsL ks1 bo (ks1.length / 4) = qs at hvs hql
      clear hkp2 hkp hw hown
      k_with "exec Assign cons ListComp" => (k_dflt (refine Assign_ListComp_J (by k_asm) (by rfl) (by with_unfolding_all rfl) (by with_unfolding_all rfl) (by decide) (by rfl) (by decide) (by rfl) (by rfl) ?_))
      k_steps
      k_dflt (refine comp_list (by rfl) (by k_asm) (by k_asm) (by k_mem) (by rw [hvl, sizeLine_eq]; omega) (by rfl) (by rfl) (fun i ys n₁ => n₁ = (l8, listOf vs'.toArray n') :: (L' + 1, o1) :: rest ∧ IntsAre ys ((qs.take i).filter goodC)) ⟨rfl, .nil⟩ ?turn3 ?fin3)
      case turn3 =>
        intro g7 i7 ys n₁ own3 C D oC m₂ h7 tk7 E7 hi7 hz hJ hoff3 hw3 hown3 hoC F7 N7
        obtain ⟨v7, hv7, hz⟩ := hz
        obtain ⟨rfl, hys⟩ := hJ
        obtain ⟨hlt, tv, rfl⟩ := ints_item hvs hv7
        simp only [List.cons_append] at N7
        obtain ⟨rest3, hrest3⟩ : ∃ r, r = rest ++ own3 := ⟨_, rfl⟩
        rw [← hrest3] at N7
        refine tests_ce1 ?_
        intro qc pc hqc hpc
        (try dsimp only)
        k_steps
        all_goals subst hrest3
        all_goals ((first | refine CE.go hqc (n' := (l8, listOf vs'.toArray n') :: (L' + 1, o1) :: rest) (by k_asm) (ce_back (by k_asm)) hoff3 ⟨rfl, ?_⟩ | refine CE.go hpc (n' := (l8, listOf vs'.toArray n') :: (L' + 1, o1) :: rest) (by k_asm) (ce_back (by k_asm)) hoff3 ⟨rfl, ?_⟩))
        all_goals first
          | (rw [filt_yes hlt (by simp only [goodC, Bool.and_eq_true, Bool.or_eq_true, decide_eq_true_eq]; omega)]; exact ints_snoc hys _ _)
          | (rw [filt_no hlt (by simp only [goodC, Bool.and_eq_false_iff, Bool.or_eq_false_iff, decide_eq_false_iff_not]; omega)]; exact hys)
      case fin3 =>
        rintro g7 tk7 ys n₁ ⟨rfl, hys⟩ D h7 tk7 F7 N7 hD
        (try dsimp only)
        rw [IntsAre.length hvs, List.take_length] at hys
        have hD8 : @Ne Nat l8 D := hD _ (.head _)
        have hDc : @Ne Nat (L' + 1) D := hD _ (.tail _ (.head _))
        clear F8 N8
        k_with "eval ListComp" => (k_dflt (refine ListComp_J (by k_asm) (by with_unfolding_all rfl) (by decide) (by rfl) (by decide) ?_))
        k_steps
        · rename qs = [] => hz9
          subst hrest
          refine TurnEnd.intro (n' := (L' + 1, o1) :: news) (by k_asm) (news_sub (by k_asm) (sub_tpn3 (x := [_, _, _]))) hoff ⟨rfl, (next_hit hbi hj1 (hqs ▸ hit_no1 hz9)).1, (next_hit hbi hj1 (hqs ▸ hit_no1 hz9)).2, by walk_at "kp"⟩
        · rename List.filter goodC qs = qs => hz9
          k_with_none
          k_with "compareOp NotEq ref ref" => (k_here; (with_reducible show wpAny _ _ (compareOp CmpOp.NotEq (Value.ref _) (Value.ref _)) _ _ _); k_dflt (refine' ne_nilI ?z21N ?z21a ?z21b ?z21i ?z21u ?_; (case z21N => k_asm); (case z21a => k_mem); (case z21b => k_mem); (case z21i => assumption); (case z21u => ke_room)))
          k_with "binaryOp Add str str" => (k_here; (with_reducible show wpAny _ _ (binaryOp Operator.Add (Value.str _ _) (Value.str (Str.ofString (ordS _)) _)) _ _ _); (refine add32 ?_); intro _ _)
          k_with "call builtin:len" => (k_here; (with_reducible show wpAny _ _ (call (Value.builtin "len") [Value.ref _]) _ _ _); k_dflt (refine' len9 ?z23N ?z23a ?z23c ?z23b ?_; (case z23N => k_asm); (case z23a => k_mem); (case z23c => assumption); (case z23b => omega); intro _ _))
          k_with "subscriptTail" => (k_here; (with_reducible show wpAny _ _ (subscriptTail _ (Expr.Slice (some _) (some _) none _) (Value.bytes _ _) (Value.ref _)) _ _ _); (with_reducible rename Fr _ _ _ _ => zF); (with_reducible rename News _ _ _ _ => zN); (refine slice4_K (s := ⟨_, _, _, _, _⟩) zF zN (by kba_ints) (by omega) (by omega) ?_); intro _ _ _ _ _ _ _ _ _ _)
          k_with "subscriptTail" => (k_here; (with_reducible show wpAny _ _ (subscriptTail _ (Expr.Slice none none (some _) _) (Value.bytes _ _) (Value.ref _)) _ _ _); (with_reducible rename Fr _ _ _ _ => zF); (with_reducible rename News _ _ _ _ => zN); (refine rev4_K (s := ⟨_, _, _, _, _⟩) zF zN (by assumption) (by assumption) (by assumption) ?_); intro _ _ _ _ _ _ _ _ _ _)
          k_dflt (refine comp_list (by rfl) (by k_asm) (news_sub (by k_asm) (sub_tpn3 (x := [_, _]))) (.head _) (by rw [hvl, sizeLine_eq]; omega) (by rfl) (by rfl) (fun i ys n₁ => n₁ = (l8, listOf vs'.toArray n') :: (L' + 1, o1) :: rest ∧ IntsAre ys ((qs.take i).filter smallC)) ⟨rfl, .nil⟩ ?turn4 ?fin4)
          case turn4 =>
            intro g6 i6 ys6 n₁ own4 C D oC m₂ h6 tk6 E6 hi6 hz hJ hoff4 hw4 hown4 hoC F6 N6
            obtain ⟨v6, hv6, hz⟩ := hz
            obtain ⟨rfl, hys6⟩ := hJ
            obtain ⟨hlt, tv, rfl⟩ := ints_item hvs hv6
            simp only [List.cons_append] at N6
            obtain ⟨rest4, hrest4⟩ : ∃ r, r = rest ++ own4 := ⟨_, rfl⟩
            rw [← hrest4] at N6
            refine tests_ce1 ?_
            intro qc pc hqc hpc
            (try dsimp only)
            k_steps
            all_goals subst hrest4
            all_goals ((first | refine CE.go hqc (n' := (l8, listOf vs'.toArray n') :: (L' + 1, o1) :: rest) (by k_asm) (ce_back (by k_asm)) hoff4 ⟨rfl, ?_⟩ | refine CE.go hpc (n' := (l8, listOf vs'.toArray n') :: (L' + 1, o1) :: rest) (by k_asm) (ce_back (by k_asm)) hoff4 ⟨rfl, ?_⟩))
            all_goals first
              | (rw [filt_yes hlt (by simp only [smallC, decide_eq_true_eq]; omega)]; exact ints_snoc hys6 _ _)
              | (rw [filt_no hlt (by simp only [smallC, decide_eq_false_iff_not]; omega)]; exact hys6)
          case fin4 =>
            rintro g6 tk6 ys6 n₁ ⟨rfl, hys6⟩ D6 h6 tk6 F6 N6 hD6
            (try dsimp only)
            rw [IntsAre.length hvs, List.take_length] at hys6
            have hyl6 := IntsAre.length hys6
            have hfl6 : (List.filter smallC qs).length ≤ qs.length := List.length_filter_le _ _
            have hvl6 : vs'.length = qs.length := IntsAre.length hvs
            have hD86 : @Ne Nat l8 D6 := hD6 _ (.head _)
            have hDc6 : @Ne Nat (L' + 1) D6 := hD6 _ (.tail _ (.head _))
            k_steps
            · rename _ < _ => hz6
              subst hrest
              exact lv.go (hret.1 _ (guess_ord (fun e => hj1 (hbi.elim (fun x => absurd (x.1.symm.trans e) (by decide)) (fun x => x.2 ▸ Nat.zero_lt_one))) (hqs ▸ hit_yes (by assumption) (by assumption) hz6)) _) (by k_asm) (news_sub (by k_asm) (fun p hp => .tail _ (.tail _ (.tail _ (List.mem_append_left _ hp)))))
            · rename ¬ _ < _ => hz6
              subst hrest
              refine TurnEnd.intro (n' := (L' + 1, o1) :: news) (by k_asm) (news_sub (by k_asm) (sub_tpn3 (x := [_, _]))) hoff ⟨rfl, (next_hit hbi hj1 (hqs ▸ hit_no3 hz6)).1, (next_hit hbi hj1 (hqs ▸ hit_no3 hz6)).2, by walk_at "kp"⟩
        · rename ¬ List.filter goodC qs = qs => hz9
          subst hrest
          refine TurnEnd.intro (n' := (L' + 1, o1) :: news) (by k_asm) (news_sub (by k_asm) (sub_tpn3 (x := [_, _, _]))) hoff ⟨rfl, (next_hit hbi hj1 (hqs ▸ hit_no2 hz9)).1, (next_hit hbi hj1 (hqs ▸ hit_no2 hz9)).2, by walk_at "kp"⟩
  case fin =>
    rintro m₁ n₁ h9 tk9 ⟨rfl, hj1, hj2, hkp⟩ F9 N9
    have hgs := guess_t (hj1 (Nat.zero_lt_succ _)) (hj2 (Nat.succ_lt_succ (Nat.zero_lt_succ _)))
    obtain ⟨c1, c2, c3, c4, c5, rfl⟩ := hkp.shape5
    rw [hgs] at hret
    clear hkp N7 F7 hj1 hj2 hgs
    k_with "exec Assign cons ListComp" => (k_dflt (refine Assign_ListComp_J (by k_asm) (by rfl) (by with_unfolding_all rfl) (by with_unfolding_all rfl) (by decide) (by rfl) (by decide) (by rfl) (by rfl) ?_))
    k_steps
    k_dflt (refine comp_range (by rfl) (by k_asm) (by k_asm) (by assumption) (small2 (by omega)) (size2 _) (by rw [sizeLine_eq]; omega) (by rfl) (by rfl) (fun i ys n₁ => ∃ own1, n₁ = own1 ++ ((L' + 1, o1) :: news) ∧ PairsAre own1 ys ks1 i) ⟨[], rfl, .nil⟩ ?turn2 ?fin2)
    case turn2 =>
      intro g8 i ys n₁ own C D oC m₂ h8 tk8 E8 hi8 hz hJ hoff hw hown hoC F8 N8
      obtain ⟨own1, rfl, hys⟩ := hJ
      obtain ⟨x, ⟨tx, rfl⟩, hx⟩ := hz
      rw [show (0 : Int) + (i : Int) * 2 = ((2 * i : Nat) : Int) by omega] at hx
      obtain ⟨pre9, hpre9⟩ : ∃ r, r = own1 ++ ((L' + 1, o1) :: news) ++ own := ⟨_, rfl⟩
      have hmc : (L' + 1, o1) ∈ pre9 := hpre9 ▸ List.mem_append_left _ (List.mem_append_right _ (.head _))
      rw [← hpre9] at N8
      refine tests_ce ?_
      intro qc hqc
      (try dsimp only)
      k_steps
      rename _ < _ ∧ _ => hLt
      have hq := tb_ltOf hLt.2.2
      subst hpre9
      refine CE.go hqc (n' := (_, _) :: (own1 ++ (L' + 1, o1) :: news)) (by k_asm) (news_sub (by k_asm) sub_ce) (Off.cons (off_new hw (l := (D, _) :: (C, _) :: (own1 ++ (L' + 1, o1) :: news ++ own)) sub_own ?_) hoff) ⟨(_, _) :: own1, rfl, ?_⟩
      · exact all_lt2 hLt.1 (all_lt2 hLt.2.1 hq)
      · exact (hys.sub fun p hp => .tail _ hp).snoc (.head _) rfl (by rw [tn2])
    case fin2 =>
      rintro g8 tk8 ys n₁ ⟨own1, rfl, hys⟩ D h8 tk8 F8 N8 hD
      (try dsimp only)
      have hPR := hys.sub (b := own1 ++ (L' + 1, o1) :: news) (fun p hp => List.mem_append_left _ hp)
      have hs9 : ∀ p ∈ news, p ∈ own1 ++ (L' + 1, o1) :: news := fun p hp => List.mem_append_right _ (.tail _ hp)
      generalize own1 ++ (L' + 1, o1) :: news = rest at hPR hs9 N8 hD
      clear hys
      have hyl : ys.length ≤ 50 := by rw [hPR.1]; omega
      have hin := at_in hcut
      k_with "eval ListComp" => (k_dflt (refine ListComp_J (by k_asm) (by with_unfolding_all rfl) (by decide) (by rfl) (by decide) ?_))
      k_steps
      k_dflt (refine comp_list (by rfl) (by k_asm) (by k_asm) (by k_mem) (by rw [sizeLine_eq]; omega) (by rfl) (by rfl) (fun i zs n₁ => n₁ = (D, lst ys) :: rest ∧ zs.length = cntL (aheadB ks1) i) ⟨rfl, rfl⟩ ?turn3 ?fin3)
      case turn3 =>
        intro g7 i7 zs n₁ own3 C D3 oC m₂ h7 tk7 E7 hi7 hz hJ hoff3 hw3 hown3 hoC F7 N7
        obtain ⟨v7, hv7, hz⟩ := hz
        obtain ⟨rfl, hzs⟩ := hJ
        obtain ⟨T7, t7, u7, rfl, hm7⟩ := hPR.2 _ _ hv7
        simp only [List.cons_append] at N7
        obtain ⟨rest3, hrest3⟩ : ∃ r, r = rest ++ own3 := ⟨_, rfl⟩
        rw [← hrest3] at N7
        have hm7 := hrest3 ▸ List.mem_append_left own3 hm7
        have hin7 := hin (2 * i7 + 1)
        refine tests_ce1 ?_
        intro qc pc hqc hpc
        (try dsimp only)
        k_steps
        all_goals subst hrest3
        all_goals (first | refine CE.go hqc (n' := (D, lst ys) :: rest) (by k_asm) (ce_back (by k_asm)) hoff3 ⟨rfl, ?_⟩ | refine CE.go hpc (n' := (D, lst ys) :: rest) (by k_asm) (ce_back (by k_asm)) hoff3 ⟨rfl, ?_⟩)
        all_goals first
          | (rw [cnt_snoc, if_pos (by simp only [aheadB, Bool.and_eq_true, decide_eq_true_eq]; omega), List.length_append, hzs]; rfl)
          | (rw [cnt_snoc, if_neg (by simp only [aheadB, Bool.and_eq_true, decide_eq_true_eq]; omega), hzs]; rfl)
      case fin3 =>
        rintro g7 tk7 zs n₁ ⟨rfl, hzs⟩ D7 h7 tk7 F7 N7 hD7
        (try dsimp only)
        rw [hPR.1] at hzs
        have hzl : cntL (aheadB ks1) (ks1.length / 2) ≤ 50 := Nat.le_trans (cnt_le _ _) (by omega)
        k_steps
        k_dflt (refine comp_list (by rfl) (by k_asm) (news_sub (by k_asm) (sub_tpn3 (x := [_]))) (.head _) (by rw [sizeLine_eq]; omega) (by rfl) (by rfl) (fun i zs n₁ => n₁ = (D, lst ys) :: rest ∧ zs.length = cntL (behindB ks1) i) ⟨rfl, rfl⟩ ?turn4 ?fin4)
        case turn4 =>
          intro g6 i6 zs6 n₁ own4 C D4 oC m₂ h6 tk6 E6 hi6 hz hJ hoff4 hw4 hown4 hoC F6 N6
          obtain ⟨v6, hv6, hz⟩ := hz
          obtain ⟨rfl, hzs6⟩ := hJ
          obtain ⟨T6, t6, u6, rfl, hm6⟩ := hPR.2 _ _ hv6
          simp only [List.cons_append] at N6
          obtain ⟨rest4, hrest4⟩ : ∃ r, r = rest ++ own4 := ⟨_, rfl⟩
          rw [← hrest4] at N6
          have hm6 := hrest4 ▸ List.mem_append_left own4 hm6
          have hin6 := hin (2 * i6)
          refine tests_ce1 ?_
          intro qc pc hqc hpc
          (try dsimp only)
          k_steps
          all_goals subst hrest4
          all_goals (first | refine CE.go hqc (n' := (D, lst ys) :: rest) (by k_asm) (ce_back (by k_asm)) hoff4 ⟨rfl, ?_⟩ | refine CE.go hpc (n' := (D, lst ys) :: rest) (by k_asm) (ce_back (by k_asm)) hoff4 ⟨rfl, ?_⟩)
          all_goals first
            | (rw [cnt_snoc, if_pos (by simp only [behindB, Bool.and_eq_true, decide_eq_true_eq]; omega), List.length_append, hzs6]; rfl)
            | (rw [cnt_snoc, if_neg (by simp only [behindB, Bool.and_eq_true, decide_eq_true_eq]; omega), hzs6]; rfl)
        case fin4 =>
          rintro g6 tk6 zs6 n₁ ⟨rfl, hzs6⟩ D6 h6 tk6 F6 N6 hD6
          (try dsimp only)
          rw [hPR.1] at hzs6
          have hzl6 : cntL (behindB ks1) (ks1.length / 2) ≤ 50 := Nat.le_trans (cnt_le _ _) (by omega)
          have hyl1 := hPR.1
          have hD66 : @Ne Nat D D6 := hD6 _ (.head _)
          k_steps
          all_goals first
            | exact lv.go (hret.1 "utf-16be" (by unfold guessT; rw [if_pos (by omega)]) _) (by k_asm) (news_sub (by k_asm) (fun p hp => .tail _ (.tail _ (hs9 p hp))))
            | exact lv.go (hret.1 "utf-16le" (by unfold guessT; rw [if_neg (by omega), if_pos (by omega)]) _) (by k_asm) (news_sub (by k_asm) (fun p hp => .tail _ (.tail _ (hs9 p hp))))
            | exact lv.go (hret.2 (by unfold guessT; rw [if_neg (by omega), if_neg (by omega)])) (by k_asm) (news_sub (by k_asm) (fun p hp => .tail _ (.tail _ (hs9 p hp))))
-- PGD
example : True := by w_top off; k_with_none; trivial
inductive OptsAre : List Value → List Int → Prop
  | nil : OptsAre [] []
  | int {vs : List Value} {cs : List Int} {c : Int} (t : Tok) : isScal c = true → OptsAre vs cs → OptsAre (.int c t :: vs) (c :: cs)
  | none {vs : List Value} {cs : List Int} {c : Int} : isScal c = false → OptsAre vs cs → OptsAre (.none :: vs) (c :: cs)
theorem OptsAre.length {vs : List Value} {cs : List Int} (h : OptsAre vs cs) : vs.length = cs.length := by
  induction h with
  | nil => rfl
  | int t a b ih => exact congrArg Nat.succ ih
  | none a b ih => exact congrArg Nat.succ ih
theorem OptsAre.yes {vs : List Value} {cs : List Int} {c : Int} {t : Tok} (h : OptsAre vs cs) (hc : isScal c = true) : OptsAre (vs ++ [.int c t]) (cs ++ [c]) := by
  induction h with
  | nil => exact .int t hc .nil
  | int t a b ih => exact .int t a ih
  | none a b ih => exact .none a ih
theorem OptsAre.no {vs : List Value} {cs : List Int} {c : Int} (h : OptsAre vs cs) (hc : isScal c = false) : OptsAre (vs ++ [.none]) (cs ++ [c]) := by
  induction h with
  | nil => exact .none hc .nil
  | int t a b ih => exact .int t a ih
  | none a b ih => exact .none a ih
theorem OptsAre.ints {vs : List Value} {cs : List Int} (h : OptsAre vs cs) (ha : cs.all isScal = true) : IntsAre vs cs := by
  induction h with
  | nil => exact .nil
  | int t a b ih => exact .cons _ _ (ih (by rw [List.all_cons, Bool.and_eq_true] at ha; exact ha.2))
  | none a b ih => rw [List.all_cons, a, Bool.false_and] at ha; cases ha
noncomputable def optE : Value → Bool
  | .none => true
  | _ => false
noncomputable def zeroE : Value → Bool
  | .int c _ => c == 0
  | _ => false
theorem OptsAre.mem {A : Around} {s : Shared} {vs : List Value} {cs : List Int} (h : OptsAre vs cs) : ∀ y ∈ vs, SeqAt.EqAt A s y .none (optE y) := by
  induction h with
  | nil => exact fun _ h => nomatch h
  | int t a b ih =>
    intro y hy
    rcases List.mem_cons.mp hy with rfl | hy
    · exact SeqAt.EqAt.int_none _ _
    · exact ih y hy
  | none a b ih =>
    intro y hy
    rcases List.mem_cons.mp hy with rfl | hy
    · exact SeqAt.EqAt.same _
    · exact ih y hy
theorem OptsAre.any {vs : List Value} {cs : List Int} (h : OptsAre vs cs) : (!vs.any optE) = cs.all isScal := by
  induction h with
  | nil => rfl
  | int t a b ih => rw [List.any_cons, List.all_cons, a, ← ih]; rfl
  | none a b ih => rw [List.any_cons, List.all_cons, a]; rfl
theorem zero_mem {A : Around} {s : Shared} {u : Tok} {vs : List Value} {cs : List Int} (h : IntsAre vs cs) : ∀ y ∈ vs, SeqAt.EqAt A s y (.int 0 u) (zeroE y) := by
  induction h with
  | nil => exact fun _ h => nomatch h
  | cons a b c ih =>
    intro y hy
    rcases List.mem_cons.mp hy with rfl | hy
    · exact SeqAt.EqAt.int_int _ _ _ _
    · exact ih y hy
noncomputable def allNZ (cs : List Int) : Bool := cs.all fun c => decide (c ≠ 0)
theorem zero_any {vs : List Value} {cs : List Int} (h : IntsAre vs cs) : (!vs.any zeroE) = allNZ cs := by
  induction h with
  | nil => rfl
  | cons a b c ih =>
    rw [allNZ, List.all_cons, List.any_cons, Bool.not_or, ih]
    congr 1
    show (!(a == 0)) = decide (a ≠ 0)
    rw [Bool.eq_iff_iff]; simp
section
variable {prog : Program} {w : World} {A : Around} {E : Value → Shared → Prop} {s : Shared} {h₀ : Heap} {L l l' : Addr} {news : Led} {vs : List Value} {cs : List Int} {n n' : Nat} {Q : Value → Shared → Prop}
theorem notIn_none (N : News h₀ L s.heap news) (h1 : (l, listOf vs.toArray n) ∈ news) (hi : OptsAre vs cs) (h : Q (.bool (cs.all isScal)) s) : wpAny (model prog w) A (compareOp .NotIn .none (.ref l)) Q E s :=
  SeqAt.notIn_listAt optE (N.isList (items := vs.toArray) h1) (fun y hy => hi.mem y (by simpa using hy)) (by rw [← hi.any] at h; simpa using h)
theorem notIn_zero {u : Tok} (N : News h₀ L s.heap news) (h1 : (l, listOf vs.toArray n) ∈ news) (hi : IntsAre vs cs) (h : Q (.bool (allNZ cs)) s) : wpAny (model prog w) A (compareOp .NotIn (.int 0 u) (.ref l)) Q E s :=
  SeqAt.notIn_listAt zeroE (N.isList (items := vs.toArray) h1) (fun y hy => zero_mem hi y (by simpa using hy)) (by rw [← zero_any hi] at h; simpa using h)
theorem ne_nilO (N : News h₀ L s.heap news) (h1 : (l, listOf vs.toArray n) ∈ news) (h2 : (l', listOf #[] n') ∈ news) (hi : OptsAre vs cs) (hu : A.units < cLine) (h : Q (.bool (!decide (cs = []))) s) :
    wpAny (model prog w) A (compareOp .NotEq (.ref l) (.ref l')) Q E s := by
  cases hi with
  | nil => exact SeqAt.RcNeAt.lists (e := fun _ => true) (N.isList h1) (N.isList h2) rfl hu (fun j h1 _ => absurd h1 (Nat.not_lt_zero _)) prog w E Q h
  | int => exact SeqAt.RcNeAt.lists_lengths (N.isList h1) (N.isList h2) (by simp) hu prog w E Q (by simpa using h)
  | none => exact SeqAt.RcNeAt.lists_lengths (N.isList h1) (N.isList h2) (by simp) hu prog w E Q (by simpa using h)
end
theorem good_all {cs : List Int} (h1 : cs.all isScal = true) (h2 : allNZ cs = true) : cs.filter goodC = cs := by
  rw [List.filter_eq_self]
  intro c hc
  rw [isScal_good, Bool.and_eq_true]
  exact ⟨List.all_eq_true.mp h1 c hc, List.all_eq_true.mp h2 c hc⟩
theorem hit_no4 {cs : List Int} (h : cs.all isScal = false) : hit32 cs = false := hit_no2 fun e => by
  have : cs.all isScal = true := List.all_eq_true.mpr fun c hc => by
    have := List.filter_eq_self.mp e c hc
    rw [isScal_good, Bool.and_eq_true] at this
    exact this.1
  rw [this] at h; cases h
theorem hit_no5 {cs : List Int} (h : allNZ cs = false) : hit32 cs = false := hit_no2 fun e => by
  have : allNZ cs = true := List.all_eq_true.mpr fun c hc => by
    have := List.filter_eq_self.mp e c hc
    rw [isScal_good, Bool.and_eq_true] at this
    exact this.2
  rw [this] at h; cases h
theorem con_step_yes (w : World) (news : Led) (b : Array UInt8) (i : Nat) (t u v : Tok) (ks : List Int) (bo : Bool) (hb : KBw.bInts b = ks) (hi : i + 4 ≤ ks.length) (hlen : ks.length ≤ 100) (hs : isScal (codeAt ks i bo) = true) :
    Con w 169 [.bytes b t, .int (i : Int) u, .str (Str.ofString (ordS bo)) v] 30 300 news (fun k => ∀ tp t u v, (∀ p ∈ news, p.1 < tp) → k (.ref tp) ((tp, tupO [.int (codeAt ks i bo) t, .int (i + 4) u, .str (Str.ofString "") v]) :: news)) := by
  exact Con.conv (con_step w news b i t u v ks bo hb hi hlen) (fun _ h => h) fun k _ h => ⟨fun _ => h, fun e => (nomatch hs.symm.trans e)⟩
theorem con_step_no (w : World) (news : Led) (b : Array UInt8) (i : Nat) (t u v : Tok) (ks : List Int) (bo : Bool) (hb : KBw.bInts b = ks) (hi : i + 4 ≤ ks.length) (hlen : ks.length ≤ 100) (hs : isScal (codeAt ks i bo) = false) :
    Con w 169 [.bytes b t, .int (i : Int) u, .str (Str.ofString (ordS bo)) v] 30 300 news (fun k => ∀ tp w u v, (∀ p ∈ news, p.1 < tp) → k (.ref tp) ((tp, tupO [.none, .int (i + 4) u, .str w v]) :: news)) := by
  exact Con.conv (con_step w news b i t u v ks bo hb hi hlen) (fun _ h => h) fun k _ h => ⟨fun e => (nomatch hs.symm.trans e), fun _ => h⟩
noncomputable def BytsAre (ys : List Value) (ks : List Int) (n : Nat) : Prop := ys.length = n ∧ ∀ (j : Nat) (v : Value), ys[j]? = some v → ∃ b t p, v = .bytes b t ∧ KBw.bInts b = p ∧ p.length = 2 ∧ p.getD (Int.toNat 0) 0 = ks.getD (2 * j) 0 ∧ p.getD (Int.toNat 1) 0 = ks.getD (2 * j + 1) 0
theorem BytsAre.nil {ks : List Int} : BytsAre [] ks 0 := ⟨rfl, fun _ _ h => nomatch h⟩
theorem BytsAre.snoc {ys : List Value} {ks : List Int} {n : Nat} {b : Array UInt8} {t : Tok} {p : List Int} (h : BytsAre ys ks n) (hb : KBw.bInts b = p) (hp : p.length = 2) (e0 : p.getD (Int.toNat 0) 0 = ks.getD (2 * n) 0) (e1 : p.getD (Int.toNat 1) 0 = ks.getD (2 * n + 1) 0) : BytsAre (ys ++ [.bytes b t]) ks (n + 1) := by
  refine ⟨by rw [List.length_append, h.1]; rfl, fun j v e => ?_⟩
  by_cases hj : j < ys.length
  · rw [List.getElem?_append_left hj] at e
    exact h.2 j v e
  · rw [List.getElem?_append_right (Nat.le_of_not_lt hj)] at e
    have e0' : j - ys.length = 0 := by
      cases hq : j - ys.length with
      | zero => rfl
      | succ k => rw [hq] at e; cases e
    rw [e0'] at e
    have ej : j = n := snoc_at hj e0' h.1
    subst ej
    exact ⟨b, t, p, (Option.some.inj e).symm, hb, hp, e0, e1⟩
theorem len2 : ∀ {ks : List Int} {i : Nat}, i + 2 ≤ ks.length → (ks.drop i).take 2 = [ks.getD i 0, ks.getD (i + 1) 0]
  | [], i, h => by simp at h
  | [_], i, h => by simp at h
  | a :: b :: r, 0, h => by simp
  | a :: b :: r, i + 1, h => by
    have := len2 (ks := b :: r) (i := i) (by simp at h ⊢; omega)
    simpa [List.getD] using this
theorem cut22 {ks : List Int} {i : Nat} (h : i + 2 ≤ ks.length) : (ks.drop (clipAt ks.length (i : Int))).take (clipAt ks.length ((i : Int) + 2) - clipAt ks.length (i : Int)) = [ks.getD i 0, ks.getD (i + 1) 0] := by
  have e2 : (i : Int) + 2 = ((i + 2 : Nat) : Int) := by omega
  rw [e2, clipAt_nat, clipAt_nat, Nat.min_eq_left h, Nat.min_eq_left (by omega), ← len2 h]
  congr 1; omega
theorem slice2_K {prog : Program} {w : World} {A : Around} {E : Value → Shared → Prop} {s : Shared} {value slice : PySem.Expr} {b : Array UInt8} {t tl tu : Tok} {h₀ : Heap} {L : Addr} {m : PySem.Str → Option Value} {news : List (Addr × Obj)} {Q : Value → Shared → Prop} {ks : List Int} {i : Nat} (hF : Fr h₀ L s.heap m) (hN : News h₀ L s.heap news) (hk : KBw.bInts b = ks) (hz : ks.length ≤ 16777216) (hi : i + 2 ≤ ks.length)
    (h : ∀ b' p h' t' k, Fr h₀ L h' m → News h₀ L h' news → KBw.bInts b' = p → p.length = 2 → p.getD (Int.toNat 0) 0 = ks.getD i 0 → p.getD (Int.toNat 1) 0 = ks.getD (i + 1) 0 → Q (.bytes b' t') { s with heap := h', toks := k })
    (hs : subscripted slice false (.bytes b t) (.ref s.heap.objs.size) = operate [.ref s.heap.objs.size, .bytes b t] (getItem (.bytes b t) (.ref s.heap.objs.size)) := by with_unfolding_all rfl)
    (ht : ∀ r, letTemporaryGo value (.bytes b t) r = pure () := by intro _; with_unfolding_all rfl) :
    wpAny (model prog w) A (subscriptTail value slice (.bytes b t) (.ref s.heap.objs.size)) Q E { s with heap := s.heap.push { cls := .type "slice", data := .fields #[.int (i : Int) tl, .int ((i : Int) + 2) tu, .none] } } :=
  KBc.slice_K hF hN hk (.int _ _) (.int _ _) hz (fun h' t' k F' N' e => h _ _ h' t' k F' N' (e.trans (cut22 hi)) rfl rfl rfl) hs ht
inductive JDa (L' : Addr) (o1 : Obj) (news : Led) (ks1 : List Int) (many : Int) (u : Tok) (b : Array UInt8) (t : Tok) (i : Nat) (m₁ : Str → Option Value) (n₁ : Led) : Prop
  | mk : ∀ oo xo, (n₁ = (L' + 1 + 1, oo) :: (L' + 1, o1) :: news) → (oo.data = Data.cell xo) → ((0 < i → hit32 (qsL ks1 true (ks1.length / 4)) = false)) → ((1 < i → hit32 (qsL ks1 false (ks1.length / 4)) = false)) → (Kp [Str.ofString "steps"] (fun y => if y = Str.ofString "many" then some (Value.int many u) else if y = Str.ofString "octets" then some (Value.bytes b t) else none) m₁) → JDa L' o1 news ks1 many u b t i m₁ n₁
theorem con_guessedG (w : World) (news : Led) (args : List Value) (b : Array UInt8) (t u : Tok) (ks : List Int) (many : Int) (hb : KBw.bInts b = ks) (hlen : ks.length ≤ 100) (h0 : 0 ≤ many) (h1 : many ≤ 64)
    (hA : ∀ (s : Shared) (fd : FuncData) (o : Obj), (hdT.heap_1 w.params).In s.heap → (hdT.heap_1 w.params).lookup 201 = some o → o.data = .func fd → BindsTo s fd ⟨args, []⟩ [(Str.ofString "octets", .bytes b t), (Str.ofString "many", .int many u)]) :
    Con w 201 args 100 1000 news (fun k => GuessP k news (guessS (ks.take (clipAt ks.length (many.fdiv 4 * 4))))) := by
  k_with_none
  k_with "call builtin:len" => (k_here; (with_reducible show wpAny _ _ (call (Value.builtin "len") [Value.ref _]) _ _ _); k_dflt (refine' len9 ?z26N ?z26a ?z26c ?z26b ?_; (case z26N => k_asm); (case z26a => k_mem); (case z26c => assumption); (case z26b => omega); intro _ _))
  k_with "compareOp NotEq ref ref" => (k_here; (with_reducible show wpAny _ _ (compareOp CmpOp.NotEq (Value.ref _) (Value.ref _)) _ _ _); k_dflt (refine' ne_nilO ?z27N ?z27a ?z27b ?z27i ?z27u ?_; (case z27N => k_asm); (case z27a => k_mem); (case z27b => k_mem); (case z27i => assumption); (case z27u => ke_room)))
  k_with "compareOp NotIn none ref" => (k_here; (with_reducible show wpAny _ _ (compareOp CmpOp.NotIn Value.none (Value.ref _)) _ _ _); k_dflt (refine' notIn_none ?z28N ?z28a ?z28i ?_; (case z28N => k_asm); (case z28a => k_mem); (case z28i => assumption)))
  k_with "compareOp NotIn int ref" => (k_here; (with_reducible show wpAny _ _ (compareOp CmpOp.NotIn (Value.int 0 _) (Value.ref _)) _ _ _); k_dflt (refine' notIn_zero ?z29N ?z29a ?z29i ?_; (case z29N => k_asm); (case z29a => k_mem); (case z29i => first | assumption | exact OptsAre.ints (by assumption) (by assumption))))
  k_with "subscriptTail" => (k_here; (with_reducible show wpAny _ _ (subscriptTail _ (Expr.Slice (some _) (some _) none _) (Value.bytes _ _) (Value.ref _)) _ _ _); (with_reducible rename Fr _ _ _ _ => zF); (with_reducible rename News _ _ _ _ => zN); (refine slice2_K (s := ⟨_, _, _, _, _⟩) zF zN (by kba_ints) (by omega) (by omega) ?_); intro _ _ _ _ _ _ _ _ _ _ _)
  k_with "call ref" => (k_here; k_dflt (refine' Con.use ?z31kC ?z31k1 ?z31k2 ?z31k3 ?z31k4 ?z31k5 ?z31kK ?z31kd ?z31ku ?_; (case z31k2 => k_asm); (case z31k4 => k_asm); (case z31kC => first | (refine' con_step_yes _ _ _ _ _ _ _ _ _ ?z31a1 ?z31a2 ?z31a3 ?z31a4; (case z31a1 => assumption); (case z31a2 => omega); (case z31a3 => omega); (case z31a4 => assumption))); (case z31k1 => k_asm); (case z31k3 => k_asm); (case z31k5 => k_asm); (case z31kK => first | exact rfl | assumption); (case z31kd => ktr_room); (case z31ku => ktr_units); intro _ _ _ _ _ _ _ _ _; (try dsimp only); (try k_fold)))
  k_with "call ref" => (k_here; k_dflt (refine' Con.use ?z32kC ?z32k1 ?z32k2 ?z32k3 ?z32k4 ?z32k5 ?z32kK ?z32kd ?z32ku ?_; (case z32k2 => k_asm); (case z32k4 => k_asm); (case z32kC => first | (refine' con_step_no _ _ _ _ _ _ _ _ _ ?z32a1 ?z32a2 ?z32a3 ?z32a4; (case z32a1 => assumption); (case z32a2 => omega); (case z32a3 => omega); (case z32a4 => assumption))); (case z32k1 => k_asm); (case z32k3 => k_asm); (case z32k5 => k_asm); (case z32kK => first | exact rfl | assumption); (case z32kd => ktr_room); (case z32ku => ktr_units); intro _ _ _ _ _ _ _ _ _; (try dsimp only); (try k_fold)))
  k_with "binaryOp Add str str" => (k_here; (with_reducible show wpAny _ _ (binaryOp Operator.Add (Value.str _ _) (Value.str (Str.ofString (ordS _)) _)) _ _ _); (refine add32 ?_); intro _ _)
  k_with_none
  k_with "call builtin:len" => (k_here; (with_reducible show wpAny _ _ (call (Value.builtin "len") [Value.ref _]) _ _ _); k_dflt (refine' len9 ?z26N ?z26a ?z26c ?z26b ?_; (case z26N => k_asm); (case z26a => k_mem); (case z26c => assumption); (case z26b => omega); intro _ _))
  k_with "compareOp NotEq ref ref" => (k_here; (with_reducible show wpAny _ _ (compareOp CmpOp.NotEq (Value.ref _) (Value.ref _)) _ _ _); k_dflt (refine' ne_nilO ?z27N ?z27a ?z27b ?z27i ?z27u ?_; (case z27N => k_asm); (case z27a => k_mem); (case z27b => k_mem); (case z27i => assumption); (case z27u => ke_room)))
  k_with "compareOp NotIn none ref" => (k_here; (with_reducible show wpAny _ _ (compareOp CmpOp.NotIn Value.none (Value.ref _)) _ _ _); k_dflt (refine' notIn_none ?z28N ?z28a ?z28i ?_; (case z28N => k_asm); (case z28a => k_mem); (case z28i => assumption)))
  k_with "compareOp NotIn int ref" => (k_here; (with_reducible show wpAny _ _ (compareOp CmpOp.NotIn (Value.int 0 _) (Value.ref _)) _ _ _); k_dflt (refine' notIn_zero ?z29N ?z29a ?z29i ?_; (case z29N => k_asm); (case z29a => k_mem); (case z29i => first | assumption | exact OptsAre.ints (by assumption) (by assumption))))
  k_with "subscriptTail" => (k_here; (with_reducible show wpAny _ _ (subscriptTail _ (Expr.Slice (some _) (some _) none _) (Value.bytes _ _) (Value.ref _)) _ _ _); (with_reducible rename Fr _ _ _ _ => zF); (with_reducible rename News _ _ _ _ => zN); (refine slice2_K (s := ⟨_, _, _, _, _⟩) zF zN (by kba_ints) (by omega) (by omega) ?_); intro _ _ _ _ _ _ _ _ _ _ _)
  k_with "call ref" => (k_here; k_dflt (refine' Con.use ?z31kC ?z31k1 ?z31k2 ?z31k3 ?z31k4 ?z31k5 ?z31kK ?z31kd ?z31ku ?_; (case z31k2 => k_asm); (case z31k4 => k_asm); (case z31kC => first | (refine' con_step_yes _ _ _ _ _ _ _ _ _ ?z31a1 ?z31a2 ?z31a3 ?z31a4; (case z31a1 => assumption); (case z31a2 => omega); (case z31a3 => omega); (case z31a4 => assumption))); (case z31k1 => k_asm); (case z31k3 => k_asm); (case z31k5 => k_asm); (case z31kK => first | exact rfl | assumption); (case z31kd => ktr_room); (case z31ku => ktr_units); intro _ _ _ _ _ _ _ _ _; (try dsimp only); (try k_fold)))
  k_with "call ref" => (k_here; k_dflt (refine' Con.use ?z32kC ?z32k1 ?z32k2 ?z32k3 ?z32k4 ?z32k5 ?z32kK ?z32kd ?z32ku ?_; (case z32k2 => k_asm); (case z32k4 => k_asm); (case z32kC => first | (refine' con_step_no _ _ _ _ _ _ _ _ _ ?z32a1 ?z32a2 ?z32a3 ?z32a4; (case z32a1 => assumption); (case z32a2 => omega); (case z32a3 => omega); (case z32a4 => assumption))); (case z32k1 => k_asm); (case z32k3 => k_asm); (case z32k5 => k_asm); (case z32kK => first | exact rfl | assumption); (case z32kd => ktr_room); (case z32ku => ktr_units); intro _ _ _ _ _ _ _ _ _; (try dsimp only); (try k_fold)))
  k_with "binaryOp Add str str" => (k_here; (with_reducible show wpAny _ _ (binaryOp Operator.Add (Value.str _ _) (Value.str (Str.ofString (ordS _)) _)) _ _ _); (refine add32 ?_); intro _ _)
  refine' Con.enterC [(Str.ofString "octets", .bytes b t), (Str.ofString "many", .int many u)] 99 997 ?k6 ?k7 ?kd ?ku ?k9 ?kB ?kD ?_ ?c2 ?c3 ?c4
  case k6 => k_is
  case k7 => k_is
  case kd => decide
  case ku => decide
  case k9 => intro s9 X9; exact hA _ _ _ (by k_in) (by k_is) rfl
  case kB => exact rfl
  case kD => decide +kernel
  case c2 => exact rfl
  case c3 => exact rfl
  case c4 => exact rfl
  intro loose mean mg mb dp un gd outer A₀ base g' h' L' q0 gg dd oo tk0 cells' k0 B' X' T' hdp hun F' N' Y' l1 hret lv
  refine nameAE ?_
  intro Av Ev
  obtain ⟨oc1, oc2, hE, dc1, dc2⟩ := CellsAre.two Y'
  subst hE
  clear Y'
  replace dc1 : oc1.data = .cell (none) := dc1.trans (by rfl)
  replace dc2 : oc2.data = .cell (none) := dc2.trans (by rfl)
  simp only [List.cons_append, List.nil_append] at N'
  replace F' : Fr g' L' h' (fun y => if y = Str.ofString "many" then some (.int many u) else if y = Str.ofString "octets" then some (.bytes b t) else none) := fr_eq F' (by rfl)
  (try dsimp only)
  (try k_fold)
  k_with "exec For Name Tuple cons nil" => (k_dflt ((rename Fr _ _ _ _ => lF9); (with_unfolding_all refine' For_turns lF9 ?_; k_whole)))
  k_steps
  rename KBw.bInts (KBy.picked _ none _) = _ => hcut
  rename Obj.data _ = Data.cell (some (Value.bytes _ _)) => d1
  rename Obj => o1
  rename News _ _ _ _ => N7
  rename Fr _ _ _ _ => F7
  obtain ⟨ks1, hk1⟩ : ∃ x, x = List.take (clipAt ks.length (many.fdiv 4 * 4)) ks := ⟨_, rfl⟩
  rw [← hk1] at hcut hret
  have hkl1 : ks1.length ≤ 100 := by rw [hk1, List.length_take]; omega
  generalize KBy.picked b none (some (many.fdiv 4 * 4)) = bk at hcut d1
  clear hk1 hb
  k_with_none
  k_with "call builtin:len" => (k_here; (with_reducible show wpAny _ _ (call (Value.builtin "len") [Value.ref _]) _ _ _); k_dflt (refine' len9 ?z26N ?z26a ?z26c ?z26b ?_; (case z26N => k_asm); (case z26a => k_mem); (case z26c => assumption); (case z26b => omega); intro _ _))
  k_with "compareOp NotEq ref ref" => (k_here; (with_reducible show wpAny _ _ (compareOp CmpOp.NotEq (Value.ref _) (Value.ref _)) _ _ _); k_dflt (refine' ne_nilO ?z27N ?z27a ?z27b ?z27i ?z27u ?_; (case z27N => k_asm); (case z27a => k_mem); (case z27b => k_mem); (case z27i => assumption); (case z27u => ke_room)))
  k_with "compareOp NotIn none ref" => (k_here; (with_reducible show wpAny _ _ (compareOp CmpOp.NotIn Value.none (Value.ref _)) _ _ _); k_dflt (refine' notIn_none ?z28N ?z28a ?z28i ?_; (case z28N => k_asm); (case z28a => k_mem); (case z28i => assumption)))
  k_with "compareOp NotIn int ref" => (k_here; (with_reducible show wpAny _ _ (compareOp CmpOp.NotIn (Value.int 0 _) (Value.ref _)) _ _ _); k_dflt (refine' notIn_zero ?z29N ?z29a ?z29i ?_; (case z29N => k_asm); (case z29a => k_mem); (case z29i => first | assumption | exact OptsAre.ints (by assumption) (by assumption))))
  k_with "subscriptTail" => (k_here; (with_reducible show wpAny _ _ (subscriptTail _ (Expr.Slice (some _) (some _) none _) (Value.bytes _ _) (Value.ref _)) _ _ _); (with_reducible rename Fr _ _ _ _ => zF); (with_reducible rename News _ _ _ _ => zN); (refine slice2_K (s := ⟨_, _, _, _, _⟩) zF zN (by kba_ints) (by omega) (by omega) ?_); intro _ _ _ _ _ _ _ _ _ _ _)
  k_with "call ref" => (k_here; k_dflt (refine' Con.use ?z31kC ?z31k1 ?z31k2 ?z31k3 ?z31k4 ?z31k5 ?z31kK ?z31kd ?z31ku ?_; (case z31k2 => k_asm); (case z31k4 => k_asm); (case z31kC => first | (refine' con_step_yes _ _ _ _ _ _ _ _ _ ?z31a1 ?z31a2 ?z31a3 ?z31a4; (case z31a1 => assumption); (case z31a2 => omega); (case z31a3 => omega); (case z31a4 => assumption))); (case z31k1 => k_asm); (case z31k3 => k_asm); (case z31k5 => k_asm); (case z31kK => first | exact rfl | assumption); (case z31kd => ktr_room); (case z31ku => ktr_units); intro _ _ _ _ _ _ _ _ _; (try dsimp only); (try k_fold)))
  k_with "call ref" => (k_here; k_dflt (refine' Con.use ?z32kC ?z32k1 ?z32k2 ?z32k3 ?z32k4 ?z32k5 ?z32kK ?z32kd ?z32ku ?_; (case z32k2 => k_asm); (case z32k4 => k_asm); (case z32kC => first | (refine' con_step_no _ _ _ _ _ _ _ _ _ ?z32a1 ?z32a2 ?z32a3 ?z32a4; (case z32a1 => assumption); (case z32a2 => omega); (case z32a3 => omega); (case z32a4 => assumption))); (case z32k1 => k_asm); (case z32k3 => k_asm); (case z32k5 => k_asm); (case z32kK => first | exact rfl | assumption); (case z32kd => ktr_room); (case z32ku => ktr_units); intro _ _ _ _ _ _ _ _ _; (try dsimp only); (try k_fold)))
  k_with "binaryOp Add str str" => (k_here; (with_reducible show wpAny _ _ (binaryOp Operator.Add (Value.str _ _) (Value.str (Str.ofString (ordS _)) _)) _ _ _); (refine add32 ?_); intro _ _)
  k_dflt (refine for_tuple (by rfl) F7 (news_sub N7 (fun p hp => .tail _ hp)) ⟨_, (N7 _ (.head _)).1, rfl, _, rfl⟩ (N7 _ (.head _)).2.1.symm (JDa L' o1 news ks1 many u b t) ⟨oc1, none, rfl, dc1, (fun h => absurd h (Nat.lt_irrefl _)), (fun h => absurd h (by decide)), .refl⟩ ?turn ?fin)
  case turn =>
    intro i v m₁ n₁ own h9 tk9 hv hJ hoff hw hown F9 N9
    obtain ⟨oo, xo, rfl, hoo, hj1, hj2, hkp⟩ := hJ
    obtain ⟨c1, rfl⟩ := hkp.shape1
    obtain ⟨bo, uo, rfl, hbi⟩ := be_le hv
    clear N7 F7 hv hkp
    obtain ⟨rest, hrest⟩ : ∃ r, r = news ++ own := ⟨_, rfl⟩
    rw [List.cons_append, List.cons_append, ← hrest] at N9
    rename _ < _ ∧ _ => hLt
    have hrc : ∀ p ∈ rest, p.1 ≠ L' + 1 + 1 := hrest ▸ off_rest (fun p hp => Nat.ne_of_lt (Nat.lt_of_lt_of_le (l1 p hp) (Nat.le_succ_of_le (Nat.le_succ _)))) hown (fun hm => by
      rcases List.mem_cons.mp hm with e | hm
      · exact hoff _ (.head _) (e ▸ .head _)
      · exact absurd hLt.1 (by rw [List.mem_singleton.mp hm]; exact Nat.lt_irrefl _))
    k_with "exec Assign cons ListComp" => (k_dflt (refine Assign_ListComp_J (by k_asm) (by rfl) (by with_unfolding_all rfl) (by with_unfolding_all rfl) (by decide) (by rfl) (by decide) (by rfl) (by rfl) ?_))
    k_steps
    rename Obj.data _ = Data.cell (some (Value.str _ _)) => d2
    rename Obj => o2
    (try dsimp only)
    k_dflt (refine comp_range (by rfl) (by k_asm) (by k_asm) (by assumption) (small4 (by omega)) (size4 _) (by rw [sizeLine_eq]; omega) (by rfl) (by rfl) (fun j ys n₁ => n₁ = (L' + 1 + 1, o2) :: (L' + 1, o1) :: rest ∧ OptsAre ys (qsL ks1 bo j)) ⟨rfl, .nil⟩ ?turn2 ?fin2)
    case turn2 =>
      intro g8 j ys n₁ own2 C D oC m₂ h8 tk8 E8 hj hz hJ hoff2 hw2 hown2 hoC F8 N8
      obtain ⟨rfl, hys⟩ := hJ
      obtain ⟨x, ⟨tx, rfl⟩, hx⟩ := hz
      rw [show (0 : Int) + (j : Int) * 4 = ((4 * j : Nat) : Int) by omega] at hx
      simp only [List.cons_append] at N8
      obtain ⟨rest2, hrest2⟩ : ∃ r, r = rest ++ own2 := ⟨_, rfl⟩
      rw [← hrest2] at N8
      refine tests_ce ?_
      intro qc hqc
      (try dsimp only)
      cases hsc : isScal (codeAt ks1 (4 * j) bo)
      · k_steps
        subst hrest2
        refine CE.go hqc (n' := (L' + 1 + 1, o2) :: (L' + 1, o1) :: rest) (by k_asm) (ce_back (news_sub (by k_asm) (fun p hp => .tail _ hp))) hoff2 ⟨rfl, ?_⟩
        rw [qs_snoc]
        exact hys.no hsc
      · k_steps
        subst hrest2
        refine CE.go hqc (n' := (L' + 1 + 1, o2) :: (L' + 1, o1) :: rest) (by k_asm) (ce_back (news_sub (by k_asm) (fun p hp => .tail _ hp))) hoff2 ⟨rfl, ?_⟩
        rw [qs_snoc]
        exact hys.yes hsc
    case fin2 =>
      rintro g8 tk8 ys n₁ ⟨rfl, hys⟩ D h8 tk8 F8 N8 hD
      (try dsimp only)
      have hyl := hys.length
      rw [qs_len] at hyl
      have hql : (qsL ks1 bo (ks1.length / 4)).length ≤ 25 := by rw [qs_len]; omega
      generalize hqs : qsL ks1 bo (ks1.length / 4) = qs at hys hql
      have hyq := hys.length
      have hDc : @Ne Nat (L' + 1 + 1) D := hD _ (.head _)
      have hDd : @Ne Nat (L' + 1) D := hD _ (.tail _ (.head _))
      k_with "eval ListComp" => (k_dflt (refine ListComp_J (by k_asm) (by with_unfolding_all rfl) (by decide) (by rfl) (by decide) ?_))
      k_steps
      · rename qs = [] => hz9
        subst hrest
        refine TurnEnd.intro (n' := (L' + 1 + 1, o2) :: (L' + 1, o1) :: news) (by k_asm) (news_sub (by k_asm) (sub_tpn3 (x := [_, _]))) (off_re hoff) ⟨o2, _, rfl, d2, (next_hit hbi hj1 (hqs ▸ hit_no1 hz9)).1, (next_hit hbi hj1 (hqs ▸ hit_no1 hz9)).2, by walk_at "kp"⟩
      · rename qs.all isScal = true => hz8
        rename allNZ qs = true => hz9
        have hvs := hys.ints hz8
        k_with_none
        k_with "call builtin:len" => (k_here; (with_reducible show wpAny _ _ (call (Value.builtin "len") [Value.ref _]) _ _ _); k_dflt (refine' len9 ?z26N ?z26a ?z26c ?z26b ?_; (case z26N => k_asm); (case z26a => k_mem); (case z26c => assumption); (case z26b => omega); intro _ _))
        k_with "compareOp NotEq ref ref" => (k_here; (with_reducible show wpAny _ _ (compareOp CmpOp.NotEq (Value.ref _) (Value.ref _)) _ _ _); k_dflt (refine' ne_nilO ?z27N ?z27a ?z27b ?z27i ?z27u ?_; (case z27N => k_asm); (case z27a => k_mem); (case z27b => k_mem); (case z27i => assumption); (case z27u => ke_room)))
        k_with "compareOp NotIn none ref" => (k_here; (with_reducible show wpAny _ _ (compareOp CmpOp.NotIn Value.none (Value.ref _)) _ _ _); k_dflt (refine' notIn_none ?z28N ?z28a ?z28i ?_; (case z28N => k_asm); (case z28a => k_mem); (case z28i => assumption)))
        k_with "compareOp NotIn int ref" => (k_here; (with_reducible show wpAny _ _ (compareOp CmpOp.NotIn (Value.int 0 _) (Value.ref _)) _ _ _); k_dflt (refine' notIn_zero ?z29N ?z29a ?z29i ?_; (case z29N => k_asm); (case z29a => k_mem); (case z29i => first | assumption | exact OptsAre.ints (by assumption) (by assumption))))
        k_with "subscriptTail" => (k_here; (with_reducible show wpAny _ _ (subscriptTail _ (Expr.Slice (some _) (some _) none _) (Value.bytes _ _) (Value.ref _)) _ _ _); (with_reducible rename Fr _ _ _ _ => zF); (with_reducible rename News _ _ _ _ => zN); (refine slice2_K (s := ⟨_, _, _, _, _⟩) zF zN (by kba_ints) (by omega) (by omega) ?_); intro _ _ _ _ _ _ _ _ _ _ _)
        k_with "call ref" => (k_here; k_dflt (refine' Con.use ?z31kC ?z31k1 ?z31k2 ?z31k3 ?z31k4 ?z31k5 ?z31kK ?z31kd ?z31ku ?_; (case z31k2 => k_asm); (case z31k4 => k_asm); (case z31kC => first | (refine' con_step_yes _ _ _ _ _ _ _ _ _ ?z31a1 ?z31a2 ?z31a3 ?z31a4; (case z31a1 => assumption); (case z31a2 => omega); (case z31a3 => omega); (case z31a4 => assumption))); (case z31k1 => k_asm); (case z31k3 => k_asm); (case z31k5 => k_asm); (case z31kK => first | exact rfl | assumption); (case z31kd => ktr_room); (case z31ku => ktr_units); intro _ _ _ _ _ _ _ _ _; (try dsimp only); (try k_fold)))
        k_with "call ref" => (k_here; k_dflt (refine' Con.use ?z32kC ?z32k1 ?z32k2 ?z32k3 ?z32k4 ?z32k5 ?z32kK ?z32kd ?z32ku ?_; (case z32k2 => k_asm); (case z32k4 => k_asm); (case z32kC => first | (refine' con_step_no _ _ _ _ _ _ _ _ _ ?z32a1 ?z32a2 ?z32a3 ?z32a4; (case z32a1 => assumption); (case z32a2 => omega); (case z32a3 => omega); (case z32a4 => assumption))); (case z32k1 => k_asm); (case z32k3 => k_asm); (case z32k5 => k_asm); (case z32kK => first | exact rfl | assumption); (case z32kd => ktr_room); (case z32ku => ktr_units); intro _ _ _ _ _ _ _ _ _; (try dsimp only); (try k_fold)))
        k_with "binaryOp Add str str" => (k_here; (with_reducible show wpAny _ _ (binaryOp Operator.Add (Value.str _ _) (Value.str (Str.ofString (ordS _)) _)) _ _ _); (refine add32 ?_); intro _ _)
        k_dflt (refine comp_list (by rfl) (by k_asm) (news_sub (by k_asm) (sub_tpn3 (x := [_]))) (.head _) (by rw [sizeLine_eq]; omega) (by rfl) (by rfl) (fun i zs n₁ => n₁ = (D, lst ys) :: (L' + 1 + 1, o2) :: (L' + 1, o1) :: rest ∧ IntsAre zs ((qs.take i).filter smallC)) ⟨rfl, .nil⟩ ?turn4 ?fin4)
        case turn4 =>
          intro g6 i6 ys6 n₁ own4 C D4 oC m₂ h6 tk6 E6 hi6 hz hJ hoff4 hw4 hown4 hoC F6 N6
          obtain ⟨v6, hv6, hz⟩ := hz
          obtain ⟨rfl, hys6⟩ := hJ
          obtain ⟨hlt, tv, rfl⟩ := ints_item hvs hv6
          simp only [List.cons_append] at N6
          obtain ⟨rest4, hrest4⟩ : ∃ r, r = rest ++ own4 := ⟨_, rfl⟩
          rw [← hrest4] at N6
          refine tests_ce1 ?_
          intro qc pc hqc hpc
          (try dsimp only)
          k_steps
          all_goals subst hrest4
          all_goals ((first | refine CE.go hqc (n' := (D, lst ys) :: (L' + 1 + 1, o2) :: (L' + 1, o1) :: rest) (by k_asm) (ce_back (by k_asm)) hoff4 ⟨rfl, ?_⟩ | refine CE.go hpc (n' := (D, lst ys) :: (L' + 1 + 1, o2) :: (L' + 1, o1) :: rest) (by k_asm) (ce_back (by k_asm)) hoff4 ⟨rfl, ?_⟩))
          all_goals first
            | (rw [filt_yes hlt (by simp only [smallC, decide_eq_true_eq]; omega)]; exact ints_snoc hys6 _ _)
            | (rw [filt_no hlt (by simp only [smallC, decide_eq_false_iff_not]; omega)]; exact hys6)
        case fin4 =>
          rintro g6 tk6 ys6 n₁ ⟨rfl, hys6⟩ D6 h6 tk6 F6 N6 hD6
          (try dsimp only)
          rw [IntsAre.length hvs, List.take_length] at hys6
          have hyl6 := IntsAre.length hys6
          have hfl6 : (List.filter smallC qs).length ≤ qs.length := List.length_filter_le _ _
          have hD86 : @Ne Nat D D6 := hD6 _ (.head _)
          k_steps
          · rename _ < _ => hz6
            subst hrest
            exact lv.go (hret.1 _ (guess_ord (fun e => hj1 (hbi.elim (fun x => absurd (x.1.symm.trans e) (by decide)) (fun x => x.2 ▸ Nat.zero_lt_one))) (hqs ▸ hit_yes (by assumption) (good_all hz8 hz9) hz6)) _) (by k_asm) (news_sub (by k_asm) (fun p hp => .tail _ (.tail _ (.tail _ (.tail _ (List.mem_append_left _ hp))))))
          · rename ¬ _ < _ => hz6
            subst hrest
            refine TurnEnd.intro (n' := (L' + 1 + 1, o2) :: (L' + 1, o1) :: news) (by k_asm) (news_sub (by k_asm) (sub_tpn3 (x := [_, _]))) (off_re hoff) ⟨o2, _, rfl, d2, (next_hit hbi hj1 (hqs ▸ hit_no3 hz6)).1, (next_hit hbi hj1 (hqs ▸ hit_no3 hz6)).2, by walk_at "kp"⟩
      · rename allNZ qs = false => hz9
        subst hrest
        refine TurnEnd.intro (n' := (L' + 1 + 1, o2) :: (L' + 1, o1) :: news) (by k_asm) (news_sub (by k_asm) (sub_tpn3 (x := [_, _]))) (off_re hoff) ⟨o2, _, rfl, d2, (next_hit hbi hj1 (hqs ▸ hit_no5 hz9)).1, (next_hit hbi hj1 (hqs ▸ hit_no5 hz9)).2, by walk_at "kp"⟩
      · rename qs.all isScal = false => hz9
        subst hrest
        refine TurnEnd.intro (n' := (L' + 1 + 1, o2) :: (L' + 1, o1) :: news) (by k_asm) (news_sub (by k_asm) (sub_tpn3 (x := [_, _]))) (off_re hoff) ⟨o2, _, rfl, d2, (next_hit hbi hj1 (hqs ▸ hit_no4 hz9)).1, (next_hit hbi hj1 (hqs ▸ hit_no4 hz9)).2, by walk_at "kp"⟩
  case fin =>
    rintro m₁ n₁ h9 tk9 ⟨oo, xo, rfl, hoo, hj1, hj2, hkp⟩ F9 N9
    have hgs := guess_t (hj1 (Nat.zero_lt_succ _)) (hj2 (Nat.succ_lt_succ (Nat.zero_lt_succ _)))
    obtain ⟨c1, rfl⟩ := hkp.shape1
    rw [hgs] at hret
    clear hkp N7 F7 hj1 hj2 hgs
    k_with "exec Assign cons ListComp" => (k_dflt (refine Assign_ListComp_J (by k_asm) (by rfl) (by with_unfolding_all rfl) (by with_unfolding_all rfl) (by decide) (by rfl) (by decide) (by rfl) (by rfl) ?_))
    k_steps
    k_dflt (refine comp_range (by rfl) (by k_asm) (by k_asm) (by assumption) (small2 (by omega)) (size2 _) (by rw [sizeLine_eq]; omega) (by rfl) (by rfl) (fun i ys n₁ => n₁ = (L' + 1 + 1, oo) :: (L' + 1, o1) :: news ∧ BytsAre ys ks1 i) ⟨rfl, .nil⟩ ?turn2 ?fin2)
    case turn2 =>
      intro g8 i ys n₁ own C D oC m₂ h8 tk8 E8 hi8 hz hJ hoff hw hown hoC F8 N8
      obtain ⟨rfl, hys⟩ := hJ
      obtain ⟨x, ⟨tx, rfl⟩, hx⟩ := hz
      rw [show (0 : Int) + (i : Int) * 2 = ((2 * i : Nat) : Int) by omega] at hx
      simp only [List.cons_append] at N8
      obtain ⟨rest2, hrest2⟩ : ∃ r, r = news ++ own := ⟨_, rfl⟩
      rw [← hrest2] at N8
      refine tests_ce ?_
      intro qc hqc
      (try dsimp only)
      k_steps
      subst hrest2
      refine CE.go hqc (n' := (L' + 1 + 1, oo) :: (L' + 1, o1) :: news) (by k_asm) (ce_back (by k_asm)) hoff ⟨rfl, hys.snoc (by assumption) (by assumption) (by assumption) (by assumption)⟩
    case fin2 =>
      rintro g8 tk8 ys n₁ ⟨rfl, hPR⟩ D h8 tk8 F8 N8 hD
      (try dsimp only)
      have hyl : ys.length ≤ 50 := by rw [hPR.1]; omega
      have hDc : @Ne Nat (L' + 1 + 1) D := hD _ (.head _)
      have hDd : @Ne Nat (L' + 1) D := hD _ (.tail _ (.head _))
      k_with "eval ListComp" => (k_dflt (refine ListComp_J (by k_asm) (by with_unfolding_all rfl) (by decide) (by rfl) (by decide) ?_))
      k_steps
      k_dflt (refine comp_list (by rfl) (by k_asm) (by k_asm) (.head _) (by rw [sizeLine_eq]; omega) (by rfl) (by rfl) (fun i zs n₁ => n₁ = (D, lst ys) :: (L' + 1 + 1, oo) :: (L' + 1, o1) :: news ∧ zs.length = cntL (aheadB ks1) i) ⟨rfl, rfl⟩ ?turn3 ?fin3)
      case turn3 =>
        intro g7 i7 zs n₁ own3 C D3 oC m₂ h7 tk7 E7 hi7 hz hJ hoff3 hw3 hown3 hoC F7 N7
        obtain ⟨v7, hv7, hz⟩ := hz
        obtain ⟨rfl, hzs⟩ := hJ
        obtain ⟨b7, t7, p7, rfl, hb7, hp7, hp0, hp1⟩ := hPR.2 _ _ hv7
        simp only [List.cons_append] at N7
        obtain ⟨rest3, hrest3⟩ : ∃ r, r = news ++ own3 := ⟨_, rfl⟩
        rw [← hrest3] at N7
        refine tests_ce1 ?_
        intro qc pc hqc hpc
        (try dsimp only)
        k_steps
        all_goals subst hrest3
        all_goals (first | refine CE.go hqc (n' := (D, lst ys) :: (L' + 1 + 1, oo) :: (L' + 1, o1) :: news) (by k_asm) (ce_back (by k_asm)) hoff3 ⟨rfl, ?_⟩ | refine CE.go hpc (n' := (D, lst ys) :: (L' + 1 + 1, oo) :: (L' + 1, o1) :: news) (by k_asm) (ce_back (by k_asm)) hoff3 ⟨rfl, ?_⟩)
        all_goals first
          | (rw [cnt_snoc, if_pos (by simp only [aheadB, Bool.and_eq_true, decide_eq_true_eq]; omega), List.length_append, hzs]; rfl)
          | (rw [cnt_snoc, if_neg (by simp only [aheadB, Bool.and_eq_true, decide_eq_true_eq]; omega), hzs]; rfl)
      case fin3 =>
        rintro g7 tk7 zs n₁ ⟨rfl, hzs⟩ D7 h7 tk7 F7 N7 hD7
        (try dsimp only)
        rw [hPR.1] at hzs
        have hzl : cntL (aheadB ks1) (ks1.length / 2) ≤ 50 := Nat.le_trans (cnt_le _ _) (by omega)
        k_steps
        k_dflt (refine comp_list (by rfl) (by k_asm) (news_sub (by k_asm) (sub_tpn3 (x := [_]))) (.head _) (by rw [sizeLine_eq]; omega) (by rfl) (by rfl) (fun i zs n₁ => n₁ = (D, lst ys) :: (L' + 1 + 1, oo) :: (L' + 1, o1) :: news ∧ zs.length = cntL (behindB ks1) i) ⟨rfl, rfl⟩ ?turn4 ?fin4)
        case turn4 =>
          intro g6 i6 zs6 n₁ own4 C D4 oC m₂ h6 tk6 E6 hi6 hz hJ hoff4 hw4 hown4 hoC F6 N6
          obtain ⟨v6, hv6, hz⟩ := hz
          obtain ⟨rfl, hzs6⟩ := hJ
          obtain ⟨b6, t6, p6, rfl, hb6, hp6, hp0, hp1⟩ := hPR.2 _ _ hv6
          simp only [List.cons_append] at N6
          obtain ⟨rest4, hrest4⟩ : ∃ r, r = news ++ own4 := ⟨_, rfl⟩
          rw [← hrest4] at N6
          refine tests_ce1 ?_
          intro qc pc hqc hpc
          (try dsimp only)
          k_steps
          all_goals subst hrest4
          all_goals (first | refine CE.go hqc (n' := (D, lst ys) :: (L' + 1 + 1, oo) :: (L' + 1, o1) :: news) (by k_asm) (ce_back (by k_asm)) hoff4 ⟨rfl, ?_⟩ | refine CE.go hpc (n' := (D, lst ys) :: (L' + 1 + 1, oo) :: (L' + 1, o1) :: news) (by k_asm) (ce_back (by k_asm)) hoff4 ⟨rfl, ?_⟩)
          all_goals first
            | (rw [cnt_snoc, if_pos (by simp only [behindB, Bool.and_eq_true, decide_eq_true_eq]; omega), List.length_append, hzs6]; rfl)
            | (rw [cnt_snoc, if_neg (by simp only [behindB, Bool.and_eq_true, decide_eq_true_eq]; omega), hzs6]; rfl)
        case fin4 =>
          rintro g6 tk6 zs6 n₁ ⟨rfl, hzs6⟩ D6 h6 tk6 F6 N6 hD6
          (try dsimp only)
          rw [hPR.1] at hzs6
          have hzl6 : cntL (behindB ks1) (ks1.length / 2) ≤ 50 := Nat.le_trans (cnt_le _ _) (by omega)
          have hyl1 := hPR.1
          have hD66 : @Ne Nat D D6 := hD6 _ (.head _)
          k_steps
          all_goals first
            | exact lv.go (hret.1 "utf-16be" (by unfold guessT; rw [if_pos (by omega)]) _) (by k_asm) (news_sub (by k_asm) (sub_tpn3 (x := [_, _, _, _])))
            | exact lv.go (hret.1 "utf-16le" (by unfold guessT; rw [if_neg (by omega), if_pos (by omega)]) _) (by k_asm) (news_sub (by k_asm) (sub_tpn3 (x := [_, _, _, _])))
            | exact lv.go (hret.2 (by unfold guessT; rw [if_neg (by omega), if_neg (by omega)])) (by k_asm) (news_sub (by k_asm) (sub_tpn3 (x := [_, _, _, _])))
theorem on_K {K : Frag} {a : Addr} {o o' : Obj} {P : Obj → Prop} (h : K.lookup a = some o) (h' : K.lookup a = some o') (p : P o') : P o := Option.some.inj (h'.symm.trans h) ▸ p
theorem con_guessed (w : World) (news : Led) (b : Array UInt8) (t u : Tok) (ks : List Int) (many : Int) (hb : KBw.bInts b = ks) (hlen : ks.length ≤ 100) (h0 : 0 ≤ many) (h1 : many ≤ 64) :
    Con w 201 [.bytes b t, .int many u] 100 1000 news (fun k => GuessP k news (guessS (ks.take (clipAt ks.length (many.fdiv 4 * 4))))) :=
  con_guessedG w news _ b t u ks many hb hlen h0 h1 fun s fd o X ho hd => by
    revert hd
    refine' on_K (P := fun o => o.data = .func fd → BindsTo s fd _ _) ho ?hx ?_
    case hx => k_is
    intro hd
    obtain rfl := Data.func.inj hd
    exact binds_K X rfl (by k_is) rfl rfl rfl
theorem con_guessed1 (w : World) (news : Led) (b : Array UInt8) (t : Tok) (ks : List Int) (hb : KBw.bInts b = ks) (hlen : ks.length ≤ 100) :
    Con w 201 [.bytes b t] 100 1000 news (fun k => GuessP k news (guessS (ks.take (clipAt ks.length ((64 : Int).fdiv 4 * 4))))) :=
  con_guessedG w news _ b t 442 ks 64 hb hlen (by decide) (by decide) fun s fd o X ho hd => by
    revert hd
    refine' on_K (P := fun o => o.data = .func fd → BindsTo s fd _ _) ho ?hx ?_
    case hx => k_is
    intro hd
    obtain rfl := Data.func.inj hd
    exact binds_K X rfl (by k_is) rfl rfl rfl
-- PAA
example : True := by w_top off; k_with_none; trivial
theorem find_at {α : Type} (p : α → Bool) (d : α) : ∀ (l : List α) (i : Nat), i < l.length → (∀ j, j < i → p (l.getD j d) = false) → p (l.getD i d) = true → l.find? p = some (l.getD i d)
  | [], _, h, _, _ => absurd h (Nat.not_lt_zero _)
  | a :: r, 0, _, _, h => by
    have h0 : p a = true := h
    rw [List.find?_cons_of_pos h0]; rfl
  | a :: r, i + 1, h, hj, hi => by
    have h0 : p a = false := hj 0 (Nat.zero_lt_succ _)
    have := find_at p d r i (Nat.lt_of_succ_lt_succ h) (fun j hji => hj (j + 1) (Nat.succ_lt_succ hji)) hi
    rw [List.find?_cons_of_neg (by simp [h0]), this]; rfl
theorem find_no {α : Type} (p : α → Bool) (d : α) : ∀ (l : List α), (∀ j, j < l.length → p (l.getD j d) = false) → l.find? p = none
  | [], _ => rfl
  | a :: r, hj => by
    have h0 : p a = false := hj 0 (Nat.zero_lt_succ _)
    rw [List.find?_cons_of_neg (by simp [h0])]
    exact find_no p d r fun j h => hj (j + 1) (Nat.succ_lt_succ h)
theorem row_item {led : Led} {vs : List Value} {rs : List (List Int × String)} (h : RowsAre led vs rs) {i : Nat} {v : Value} (e : vs[i]? = some v) : ∃ a b t u, i < rs.length ∧ v = .ref a ∧ (a, tupO [.bytes b t, .str (Str.ofString (rs.getD i ([], "")).2) u]) ∈ led ∧ KBw.bInts b = (rs.getD i ([], "")).1 := by
  obtain ⟨h1, a, b, t, u, h2, h3, h4⟩ := h.item e
  exact ⟨a, b, t, u, h1, h2, h3, h4⟩
theorem bytes_inj {b c : Array UInt8} (h : KBw.bInts b = KBw.bInts c) : b = c := by
  apply Array.toList_inj.mp
  have inj : ∀ x y : UInt8, (x.toNat : Int) = (y.toNat : Int) → x = y := fun x y e => UInt8.toNat_inj.mp (Int.ofNat.inj e)
  have : ∀ l m : List UInt8, (l.map fun c => (c.toNat : Int)) = (m.map fun c => (c.toNat : Int)) → l = m := by
    intro l
    induction l with
    | nil => intro m h; cases m with
      | nil => rfl
      | cons _ _ => cases h
    | cons x r ih => intro m h; cases m with
      | nil => cases h
      | cons y s => injection h with h1 h2; rw [inj _ _ h1, ih _ h2]
  exact this _ _ h
theorem bytes_beq {b c : Array UInt8} {ks ls : List Int} (hb : KBw.bInts b = ks) (hc : KBw.bInts c = ls) : (b.toList == c.toList) = decide (ks = ls) := by
  subst hb hc
  by_cases h : KBw.bInts b = KBw.bInts c
  · rw [bytes_inj h]; simp
  · have : b.toList ≠ c.toList := fun e => h (by rw [Array.toList_inj.mp e])
    rw [decide_eq_false h]; exact beq_eq_false_iff_ne.mpr this
theorem eq_bytesK {prog : Program} {w : World} {A : Around} {E : Value → Shared → Prop} {s : Shared} {Q : Value → Shared → Prop} {b c : Array UInt8} {t u : Tok} {ks ls : List Int} (hb : KBw.bInts b = ks) (hc : KBw.bInts c = ls) (h : Q (.bool (decide (ks = ls))) s) :
    wpAny (model prog w) A (compareOp .Eq (.bytes b t) (.bytes c u)) Q E s := eq_bytes (by rw [bytes_beq hb hc]; exact h)
theorem ne_bytesK {prog : Program} {w : World} {A : Around} {E : Value → Shared → Prop} {s : Shared} {Q : Value → Shared → Prop} {b c : Array UInt8} {t u : Tok} {ks ls : List Int} (hb : KBw.bInts b = ks) (hc : KBw.bInts c = ls) (h : Q (.bool (!decide (ks = ls))) s) :
    wpAny (model prog w) A (compareOp .NotEq (.bytes b t) (.bytes c u)) Q E s := ne_bytes (by show Q (.bool (!(b.toList == c.toList))) s; rw [bytes_beq hb hc]; exact h)
theorem row_len : ∀ i, i < rowsM.length → (rowsM.getD i ([], "")).1.length ≤ 4 := by decide
theorem not_snoc {p : Nat → Bool} {i : Nat} (h : ∀ j, j < i → p j = false) (hi : p i = false) : ∀ j, j < i + 1 → p j = false := fun j hj => by
  rcases Nat.lt_succ_iff_lt_or_eq.mp hj with h' | rfl
  · exact h j h'
  · exact hi
theorem take_cut (ks ls : List Int) : List.take (min ls.length ks.length) ks = ks.take ls.length := by
  rw [List.take_eq_take_iff, Nat.min_assoc, Nat.min_self]
theorem drop_cut (ks ls : List Int) : List.take (ks.length - min ls.length ks.length) (List.drop (min ls.length ks.length) ks) = ks.drop ls.length := by
  rw [List.take_of_length_le (by simp)]
  by_cases h : ls.length ≤ ks.length
  · rw [Nat.min_eq_left h]
  · rw [Nat.min_eq_right (Nat.le_of_not_le h), List.drop_length, List.drop_of_length_le (Nat.le_of_not_le h)]
theorem sub_new {a y : Addr × Obj} {news big : Led} (h : ∀ p ∈ news, p ∈ big) : ∀ p ∈ a :: news, p ∈ a :: y :: big := fun p hp => by
  rcases List.mem_cons.mp hp with rfl | hp
  · exact .head _
  · exact .tail _ (.tail _ (h p hp))
noncomputable def pre9 (ks : List Int) (r : List Int × String) : Bool := decide (ks.take r.1.length = r.1)
theorem con_mark_of (w : World) (news : Led) (S : Str) (u : Tok) :
    Con w 181 [.str S u] 60 600 news (fun k => ∀ b t, KBw.bInts b = ((rowsM.find? fun r => Str.ofString r.2 == S).map (·.1)).getD [] → k (.bytes b t) news) := by
  k_with_none
  k_with "compareOp Eq bytes bytes" => (k_dflt (refine eq_bytesK (by kba_ints) (by kba_ints) ?_))
  k_with "compareOp NotEq bytes bytes" => (k_dflt (refine ne_bytesK (by kba_ints) (by kba_ints) ?_))
  k_with "call ref" => (k_here; k_dflt (refine' Con.use ?z36kC ?z36k1 ?z36k2 ?z36k3 ?z36k4 ?z36k5 ?z36kK ?z36kd ?z36ku ?_; (case z36k2 => k_asm); (case z36k4 => k_asm); (case z36kC => first | exact con_marks _ _ rfl); (case z36k1 => k_asm); (case z36k3 => k_asm); (case z36k5 => k_asm); (case z36kK => first | exact rfl | assumption); (case z36kd => ktr_room); (case z36ku => ktr_units); intro _ _ _ _ _ _ _ _ _ _; (try dsimp only); (try k_fold)))
  k_with_none
  k_with "compareOp Eq bytes bytes" => (k_dflt (refine eq_bytesK (by kba_ints) (by kba_ints) ?_))
  k_with "compareOp NotEq bytes bytes" => (k_dflt (refine ne_bytesK (by kba_ints) (by kba_ints) ?_))
  k_with "call ref" => (k_here; k_dflt (refine' Con.use ?z36kC ?z36k1 ?z36k2 ?z36k3 ?z36k4 ?z36k5 ?z36kK ?z36kd ?z36ku ?_; (case z36k2 => k_asm); (case z36k4 => k_asm); (case z36kC => first | exact con_marks _ _ rfl); (case z36k1 => k_asm); (case z36k3 => k_asm); (case z36k5 => k_asm); (case z36kK => first | exact rfl | assumption); (case z36kd => ktr_room); (case z36ku => ktr_units); intro _ _ _ _ _ _ _ _ _ _; (try dsimp only); (try k_fold)))
  refine' Con.enter [(Str.ofString "word", .str S u)] [(Str.ofString "word", .str S u)] 59 597 rfl ?k6 ?k7 ?kd ?ku ?k9 ?kB ?_ ?c2 ?c3 ?c4 ?c5
  case k6 => k_is
  case k7 => k_is
  case kd => decide
  case ku => decide
  case k9 => intro s9 X9; first | exact BindsTo.of_eq rfl | exact binds_K (by k_in) rfl (by k_is) rfl rfl rfl
  case c5 => decide
  case kB => exact locs rfl
  case c2 => exact rfl
  case c3 => exact rfl
  case c4 => exact rfl
  intro loose mean mg mb dp un gd outer A₀ base g' h' L' q0 gg dd oo tk0 k0 B' X' T' hdp hun F' N' hret lv
  refine nameAE ?_
  intro Av Ev
  k_with "exec For Tuple Call cons nil" => (k_dflt ((rename Fr _ _ _ _ => lF9); (with_unfolding_all refine' For_turns lF9 ?_; k_whole)))
  k_steps
  rename RowsAre _ _ rowsM => hR9
  rename_i l9 vs9 n9 led9 hs9 _ _ _ _
  k_dflt (refine for_list (by rfl) (by k_asm) (by k_asm) (by k_mem) (fun i m₁ n₁ => n₁ = (l9, listOf vs9.toArray n9) :: led9 ∧ (∀ j, j < i → (Str.ofString (rowsM.getD j ([], "")).2 == S) = false) ∧ Kp [Str.ofString "mark", Str.ofString "told"] (fun y => List.lookup y [(Str.ofString "word", .str S u)]) m₁) ⟨rfl, (fun _ h => nomatch h), .refl⟩ ?turn ?fin)
  case turn =>
    intro i v m₁ n₁ own h9 tk9 hv hJ hoff hw hown F9 N9
    obtain ⟨rfl, hall, hkp⟩ := hJ
    obtain ⟨c1, c2, rfl⟩ := hkp.shape2
    obtain ⟨a9, b9, t9, u9, hlt, rfl, hm9, hb9⟩ := row_item hR9 hv
    obtain ⟨rest, hrest⟩ : ∃ r, r = led9 ++ own := ⟨_, rfl⟩
    rw [List.cons_append, ← hrest] at N9
    have hrl := row_len i hlt
    have hm8 := hrest ▸ List.mem_append_left own hm9
    k_steps
    all_goals subst hrest
    · exact lv.go (hret _ _ (by rw [find_at _ ([], "") rowsM i hlt hall ‹_›]; exact hb9)) (by k_asm) (news_sub (by k_asm) (fun p hp => .tail _ (List.mem_append_left _ (hs9 p hp))))
    · refine TurnEnd.intro (n' := (l9, _) :: led9) (by k_asm) (by k_asm) hoff ⟨rfl, not_snoc hall ‹_›, by walk_at "kp"⟩
  case fin =>
    rintro m₁ n₁ h9 tk9 ⟨rfl, hall, hkp⟩ F9 N9
    obtain ⟨c1, c2, rfl⟩ := hkp.shape2
    rw [show vs9.length = rowsM.length from hR9.length] at hall
    k_steps
    exact lv.go (hret _ _ (by rw [find_no _ ([], "") rowsM hall]; rfl)) (by k_asm) (news_sub (by k_asm) (fun p hp => .tail _ (hs9 p hp)))
theorem con_sniffed (w : World) (news : Led) (b : Array UInt8) (t : Tok) (ks : List Int) (hb : KBw.bInts b = ks) (hlen : ks.length ≤ 100) :
    Con w 188 [.bytes b t] 60 600 news (fun k => (∀ r t, rowsM.find? (pre9 ks) = some r → k (.str (Str.ofString r.2) t) news) ∧ (rowsM.find? (pre9 ks) = none → k .none news)) := by
  k_with_none
  k_with "compareOp Eq bytes bytes" => (k_dflt (refine eq_bytesK (by kba_ints) (by kba_ints) ?_))
  k_with "compareOp NotEq bytes bytes" => (k_dflt (refine ne_bytesK (by kba_ints) (by kba_ints) ?_))
  k_with "call ref" => (k_here; k_dflt (refine' Con.use ?z36kC ?z36k1 ?z36k2 ?z36k3 ?z36k4 ?z36k5 ?z36kK ?z36kd ?z36ku ?_; (case z36k2 => k_asm); (case z36k4 => k_asm); (case z36kC => first | exact con_marks _ _ rfl); (case z36k1 => k_asm); (case z36k3 => k_asm); (case z36k5 => k_asm); (case z36kK => first | exact rfl | assumption); (case z36kd => ktr_room); (case z36ku => ktr_units); intro _ _ _ _ _ _ _ _ _ _; (try dsimp only); (try k_fold)))
  k_with_none
  k_with "compareOp Eq bytes bytes" => (k_dflt (refine eq_bytesK (by kba_ints) (by kba_ints) ?_))
  k_with "compareOp NotEq bytes bytes" => (k_dflt (refine ne_bytesK (by kba_ints) (by kba_ints) ?_))
  k_with "call ref" => (k_here; k_dflt (refine' Con.use ?z36kC ?z36k1 ?z36k2 ?z36k3 ?z36k4 ?z36k5 ?z36kK ?z36kd ?z36ku ?_; (case z36k2 => k_asm); (case z36k4 => k_asm); (case z36kC => first | exact con_marks _ _ rfl); (case z36k1 => k_asm); (case z36k3 => k_asm); (case z36k5 => k_asm); (case z36kK => first | exact rfl | assumption); (case z36kd => ktr_room); (case z36ku => ktr_units); intro _ _ _ _ _ _ _ _ _ _; (try dsimp only); (try k_fold)))
  refine' Con.enter [(Str.ofString "octets", .bytes b t)] [(Str.ofString "octets", .bytes b t)] 59 597 rfl ?k6 ?k7 ?kd ?ku ?k9 ?kB ?_ ?c2 ?c3 ?c4 ?c5
  case k6 => k_is
  case k7 => k_is
  case kd => decide
  case ku => decide
  case k9 => intro s9 X9; first | exact BindsTo.of_eq rfl | exact binds_K (by k_in) rfl (by k_is) rfl rfl rfl
  case c5 => decide
  case kB => exact locs rfl
  case c2 => exact rfl
  case c3 => exact rfl
  case c4 => exact rfl
  intro loose mean mg mb dp un gd outer A₀ base g' h' L' q0 gg dd oo tk0 k0 B' X' T' hdp hun F' N' hret lv
  refine nameAE ?_
  intro Av Ev
  k_with "exec For Tuple Call cons nil" => (k_dflt ((rename Fr _ _ _ _ => lF9); (with_unfolding_all refine' For_turns lF9 ?_; k_whole)))
  k_steps
  rename RowsAre _ _ rowsM => hR9
  rename_i l9 vs9 n9 led9 hs9 _ _ _ _
  k_dflt (refine for_list (by rfl) (by k_asm) (by k_asm) (by k_mem) (fun i m₁ n₁ => n₁ = (l9, listOf vs9.toArray n9) :: led9 ∧ (∀ j, j < i → pre9 ks (rowsM.getD j ([], "")) = false) ∧ Kp [Str.ofString "mark", Str.ofString "word"] (fun y => List.lookup y [(Str.ofString "octets", .bytes b t)]) m₁) ⟨rfl, (fun _ h => nomatch h), .refl⟩ ?turn ?fin)
  case turn =>
    intro i v m₁ n₁ own h9 tk9 hv hJ hoff hw hown F9 N9
    obtain ⟨rfl, hall, hkp⟩ := hJ
    obtain ⟨c1, c2, rfl⟩ := hkp.shape2
    obtain ⟨a9, b9, t9, u9, hlt, rfl, hm9, hb9⟩ := row_item hR9 hv
    obtain ⟨rest, hrest⟩ : ∃ r, r = led9 ++ own := ⟨_, rfl⟩
    rw [List.cons_append, ← hrest] at N9
    have hrl := row_len i hlt
    have hm8 := hrest ▸ List.mem_append_left own hm9
    k_steps
    all_goals subst hrest
    all_goals simp only [take_cut] at *
    · exact lv.go (hret.1 _ _ (find_at _ ([], "") rowsM i hlt hall (decide_eq_true ‹_›))) (by k_asm) (news_sub (by k_asm) (fun p hp => .tail _ (List.mem_append_left _ (hs9 p hp))))
    · refine TurnEnd.intro (n' := (l9, _) :: led9) (by k_asm) (by k_asm) hoff ⟨rfl, not_snoc hall (decide_eq_false ‹_›), by walk_at "kp"⟩
  case fin =>
    rintro m₁ n₁ h9 tk9 ⟨rfl, hall, hkp⟩ F9 N9
    obtain ⟨c1, c2, rfl⟩ := hkp.shape2
    rw [show vs9.length = rowsM.length from hR9.length] at hall
    k_steps
    exact lv.go (hret.2 (find_no _ ([], "") rowsM hall)) (by k_asm) (news_sub (by k_asm) (fun p hp => .tail _ (hs9 p hp)))
theorem con_unmarked (w : World) (news : Led) (b : Array UInt8) (t : Tok) (ks : List Int) (hb : KBw.bInts b = ks) (hlen : ks.length ≤ 100) :
    Con w 195 [.bytes b t] 60 600 news (fun k => (∀ r t b' t' tp, rowsM.find? (pre9 ks) = some r → KBw.bInts b' = (if Str.ofString r.2 == Str.ofString "utf-7" then ks else ks.drop r.1.length) → (∀ p ∈ news, p.1 < tp) → k (.ref tp) ((tp, tupO [.str (Str.ofString r.2) t, .bytes b' t']) :: news)) ∧ (rowsM.find? (pre9 ks) = none → ∀ tp t', (∀ p ∈ news, p.1 < tp) → k (.ref tp) ((tp, tupO [.none, .bytes b t']) :: news))) := by
  k_with_none
  k_with "compareOp Eq bytes bytes" => (k_dflt (refine eq_bytesK (by kba_ints) (by kba_ints) ?_))
  k_with "compareOp NotEq bytes bytes" => (k_dflt (refine ne_bytesK (by kba_ints) (by kba_ints) ?_))
  k_with "call ref" => (k_here; k_dflt (refine' Con.use ?z36kC ?z36k1 ?z36k2 ?z36k3 ?z36k4 ?z36k5 ?z36kK ?z36kd ?z36ku ?_; (case z36k2 => k_asm); (case z36k4 => k_asm); (case z36kC => first | exact con_marks _ _ rfl); (case z36k1 => k_asm); (case z36k3 => k_asm); (case z36k5 => k_asm); (case z36kK => first | exact rfl | assumption); (case z36kd => ktr_room); (case z36ku => ktr_units); intro _ _ _ _ _ _ _ _ _ _; (try dsimp only); (try k_fold)))
  k_with_none
  k_with "compareOp Eq bytes bytes" => (k_dflt (refine eq_bytesK (by kba_ints) (by kba_ints) ?_))
  k_with "compareOp NotEq bytes bytes" => (k_dflt (refine ne_bytesK (by kba_ints) (by kba_ints) ?_))
  k_with "call ref" => (k_here; k_dflt (refine' Con.use ?z36kC ?z36k1 ?z36k2 ?z36k3 ?z36k4 ?z36k5 ?z36kK ?z36kd ?z36ku ?_; (case z36k2 => k_asm); (case z36k4 => k_asm); (case z36kC => first | exact con_marks _ _ rfl); (case z36k1 => k_asm); (case z36k3 => k_asm); (case z36k5 => k_asm); (case z36kK => first | exact rfl | assumption); (case z36kd => ktr_room); (case z36ku => ktr_units); intro _ _ _ _ _ _ _ _ _ _; (try dsimp only); (try k_fold)))
  refine' Con.enter [(Str.ofString "octets", .bytes b t)] [(Str.ofString "octets", .bytes b t)] 59 597 rfl ?k6 ?k7 ?kd ?ku ?k9 ?kB ?_ ?c2 ?c3 ?c4 ?c5
  case k6 => k_is
  case k7 => k_is
  case kd => decide
  case ku => decide
  case k9 => intro s9 X9; first | exact BindsTo.of_eq rfl | exact binds_K (by k_in) rfl (by k_is) rfl rfl rfl
  case c5 => decide
  case kB => exact locs rfl
  case c2 => exact rfl
  case c3 => exact rfl
  case c4 => exact rfl
  intro loose mean mg mb dp un gd outer A₀ base g' h' L' q0 gg dd oo tk0 k0 B' X' T' hdp hun F' N' hret lv
  refine nameAE ?_
  intro Av Ev
  k_with "exec For Tuple Call cons nil" => (k_dflt ((rename Fr _ _ _ _ => lF9); (with_unfolding_all refine' For_turns lF9 ?_; k_whole)))
  k_steps
  rename RowsAre _ _ rowsM => hR9
  rename_i l9 vs9 n9 led9 hs9 _ _ _ _
  k_dflt (refine for_list (by rfl) (by k_asm) (by k_asm) (by k_mem) (fun i m₁ n₁ => n₁ = (l9, listOf vs9.toArray n9) :: led9 ∧ (∀ j, j < i → pre9 ks (rowsM.getD j ([], "")) = false) ∧ Kp [Str.ofString "mark", Str.ofString "word"] (fun y => List.lookup y [(Str.ofString "octets", .bytes b t)]) m₁) ⟨rfl, (fun _ h => nomatch h), .refl⟩ ?turn ?fin)
  case turn =>
    intro i v m₁ n₁ own h9 tk9 hv hJ hoff hw hown F9 N9
    obtain ⟨rfl, hall, hkp⟩ := hJ
    obtain ⟨c1, c2, rfl⟩ := hkp.shape2
    obtain ⟨a9, b9, t9, u9, hlt, rfl, hm9, hb9⟩ := row_item hR9 hv
    obtain ⟨rest, hrest⟩ : ∃ r, r = led9 ++ own := ⟨_, rfl⟩
    rw [List.cons_append, ← hrest] at N9
    have hrl := row_len i hlt
    have hm8 := hrest ▸ List.mem_append_left own hm9
    k_steps
    all_goals subst hrest
    all_goals simp only [take_cut] at *
    · rename (_ == _) = true => hq
      rename _ < _ ∧ _ => hLt
      exact lv.go (hret.1 _ _ _ _ _ (find_at _ ([], "") rowsM i hlt hall (decide_eq_true ‹_›)) (by rw [if_pos hq]; exact hb) (fun p hp => tb_ltOf hLt.2 p (List.mem_append_left _ (hs9 p hp)))) (by k_asm) (news_sub (by k_asm) (sub_new fun p hp => List.mem_append_left _ (hs9 p hp)))
    · rename (_ == _) = false => hq
      rename _ < _ ∧ _ => hLt
      rename KBw.bInts (KBy.picked b (some _) none) = _ => hcut
      rw [drop_cut] at hcut
      exact lv.go (hret.1 _ _ _ _ _ (find_at _ ([], "") rowsM i hlt hall (decide_eq_true ‹_›)) (by rw [if_neg (by rw [hq]; decide)]; exact hcut) (fun p hp => tb_ltOf hLt.2 p (List.mem_append_left _ (hs9 p hp)))) (by k_asm) (news_sub (by k_asm) (sub_new fun p hp => List.mem_append_left _ (hs9 p hp)))
    · refine TurnEnd.intro (n' := (l9, _) :: led9) (by k_asm) (by k_asm) hoff ⟨rfl, not_snoc hall (decide_eq_false ‹_›), by walk_at "kp"⟩
  case fin =>
    rintro m₁ n₁ h9 tk9 ⟨rfl, hall, hkp⟩ F9 N9
    obtain ⟨c1, c2, rfl⟩ := hkp.shape2
    rw [show vs9.length = rowsM.length from hR9.length] at hall
    k_steps
    rename _ < _ ∧ _ => hLt
    exact lv.go (hret.2 (find_no _ ([], "") rowsM hall) _ _ (fun p hp => tb_ltOf hLt.2 p (hs9 p hp))) (by k_asm) (news_sub (by k_asm) (sub_new hs9))
-- PAB
theorem all_true : ∀ l : List Nat, l.all (fun _ => true) = true
  | [] => rfl
  | _ :: r => all_true r
theorem EqAt_bytes {A : Around} {s : Shared} {b c : Array UInt8} {t u : Tok} {ks ls : List Int} (hb : KBw.bInts b = ks) (hc : KBw.bInts c = ls) : SeqAt.EqAt A s (.bytes b t) (.bytes c u) (decide (ks = ls)) := fun prog w E Q hq => by
  unfold eqBool
  refine wpAny_holding ?_
  refine wpAny_ite_split (fun hab => ?_) (fun _ => ?_)
  · have e := eq_of_beq hab
    injection e with e1 e2
    subst e1
    have hk : ks = ls := hb.symm.trans hc
    rw [decide_eq_true hk] at hq
    exact wpAny_bind (wpAny_rule (wpAny_pure hq))
  · exact wpAny_bind (eq_bytesK hb hc (wpAny_truthy_bool hq))
noncomputable def RowH (h : Heap) (v : Value) (r : List Int × String) : Prop := ∃ a b t u, v = .ref a ∧ h.IsTuple a #[.bytes b t, .str (Str.ofString r.2) u] ∧ KBw.bInts b = r.1
theorem RowIs.heap {h₀ h : Heap} {L : Addr} {news led : Led} (N : News h₀ L h news) (hs : ∀ p ∈ led, p ∈ news) {v : Value} {r : List Int × String} (hr : RowIs led v r) : RowH h v r := by
  obtain ⟨a, b, t, u, e, hm, hb⟩ := hr
  exact ⟨a, b, t, u, e, ⟨_, (N _ (hs _ hm)).1, rfl, _, rfl⟩, hb⟩
theorem EqAt_row {A : Around} {s : Shared} {v v' : Value} {r : List Int × String} (h1 : RowH s.heap v r) (h2 : RowH s.heap v' r) (hu : A.units < cLine) : SeqAt.EqAt A s v v' true := by
  obtain ⟨a, b, t, u, rfl, ht, hb⟩ := h1
  obtain ⟨a', b', t', u', rfl, ht', hb'⟩ := h2
  by_cases e : a = a'
  · subst e; exact SeqAt.EqAt.same _
  · refine SeqAt.EqAt.of_refs e ?_
    have := SeqAt.RcAt.tuples (A := A) (e := fun _ => true) ht ht' hu (fun j j1 j2 => ?_)
    · rw [all_true] at this; exact this
    · match j, j1 with
      | 0, _ => have := EqAt_bytes (A := A.in1) (s := s) (t := t) (u := t') hb hb'; simpa using this
      | 1, _ => have := SeqAt.EqAt.str_str (A := A.in1) (s := s) (Str.ofString r.2) u (Str.ofString r.2) u'; simpa using this
      | k + 2, h => exact absurd h (by simp)
theorem ne_rows {prog : Program} {w : World} {A : Around} {E : Value → Shared → Prop} {s : Shared} {l l' : Addr} {vs vs' : List Value} {n : Nat} {rs : Nat → List Int × String} {Q : Value → Shared → Prop} (hl : s.heap.IsList l vs.toArray) (hl' : s.heap.IsList l' vs'.toArray)
    (h1 : vs.length = n) (h2 : vs'.length = n) (hr : ∀ (i : Nat) (v : Value), vs[i]? = some v → RowH s.heap v (rs i)) (hr' : ∀ (i : Nat) (v : Value), vs'[i]? = some v → RowH s.heap v (rs i)) (hu : A.in1.units < cLine) (hu0 : A.units < cLine) (h : Q (.bool false) s) :
    wpAny (model prog w) A (compareOp .NotEq (.ref l) (.ref l')) Q E s := by
  refine SeqAt.RcNeAt.lists (A := A) (e := fun _ => true) hl hl' (by simp [h1, h2]) hu0 (fun j j1 j2 => ?_) prog w E Q ?_
  · exact EqAt_row (hr j _ (by simp at j1; simp [j1])) (hr' j _ (by simp at j2; simp [j2])) hu
  · rw [all_true]; exact h
theorem eq_pair {prog : Program} {w : World} {A : Around} {E : Value → Shared → Prop} {s : Shared} {a a' : Addr} {v v' : Value} {b b' : Array UInt8} {t t' : Tok} {ks : List Int} {Q : Value → Shared → Prop} (ht : s.heap.IsTuple a #[v, .bytes b t]) (ht' : s.heap.IsTuple a' #[v', .bytes b' t'])
    (hv : SeqAt.EqAt A.in1 s v v' true) (hb : KBw.bInts b = ks) (hb' : KBw.bInts b' = ks) (hu0 : A.units < cLine) (h : Q (.bool true) s) :
    wpAny (model prog w) A (compareOp .Eq (.ref a) (.ref a')) Q E s := by
  have := SeqAt.RcAt.tuples (A := A) (e := fun _ => true) ht ht' hu0 (fun j j1 j2 => ?_) prog w E Q (by rw [all_true]; exact h)
  · exact this
  · match j, j1 with
    | 0, _ => exact hv
    | 1, _ => have := EqAt_bytes (A := A.in1) (s := s) (t := t) (u := t') hb hb'; simpa using this
    | k + 2, h => exact absurd h (by simp)
-- PBB
theorem bb_bytes : typeLookup (.type "bytes") "__bytes__" = pure (some (.builtin "bytes.__bytes__")) := by rw [typeLookup_type, builtinLookup_eq_fast]; kernel_rfl
section
variable {prog : Program} {w : World} {A : Around} {E : Value → Shared → Prop} {s : Shared} {b : Array UInt8} {t : Tok}
theorem bb_new {Q : Value → Shared → Prop} (h : Q (.bytes b t) s) :
    codeAny (model prog w) A (.call (.builtin "bytes.__new__") ⟨[.type "bytes", .bytes b t], []⟩) (wants Q E) s := by
  refine codeAny_of_tree ?_
  show wpAny _ A.in1 (do checkBuiltinCall "bytes.__new__" ⟨[.type "bytes", .bytes b t], []⟩; again (.builtin "bytes.__new__" ⟨[.type "bytes", .bytes b t], []⟩)) _ _ s
  refine wpAny_bind (wpAny_of_eq (F.bm_newCall _) (wpAny_pure ⟨plainId_quiet F.bm_plain _, codeAny_builtin F.bm_entry ?_⟩))
  rw [Around.under_plainId F.bm_plain _]
  unfold Builtin.«bytes.__new__»
  refine wpAny_bind (wpAny_of_eq (a := true) rfl ?_)
  refine bm_if_false rfl ?_
  refine wpAny_bind (wpAny_of_eq F.bm_sub ?_)
  refine bm_if_false rfl ?_
  refine wpAny_bind (wpAny_of_eq (F.bm_bind _) ?_)
  refine wpAny_bind (wpAny_of_eq (a := ()) rfl ?_)
  refine wpAny_bind (wpAny_of_eq (a := ()) rfl ?_)
  refine bm_if_false rfl ?_
  refine wpAny_bind (wpAny_specialOf (PySem.W.typeIs_bytes _ _ _) bb_bytes ?_)
  refine wpAny_bind (wpAny_rule ?_)
  refine wpAny_bind (wpAny_typeOf (T := "bytes") (v := .bytes b t) rfl ?_)
  refine bm_if_true (by decide) ?_
  refine wpAny_of_eq (a := .done (.ret (.bytes b t))) (by with_unfolding_all rfl) ?_
  exact h
theorem bytes_bytes {Q : Value → Shared → Prop} (h : Q (.bytes b t) s) : wpAny (model prog w) A (call (.type "bytes") [.bytes b t]) Q E s := by
  refine callType_codes (Q₁ := fun obj s₁ => s₁.TypeIs obj "bytes" ∧ Q obj s₁) F.bm_called (F.bm_typeCall _) F.entry_object_init
    (bb_new ⟨PySem.W.typeIs_bytes _ _ _, h⟩) fun obj s₁ h₁ => ?_
  exact ⟨h₁.1, F.args_object_init_2 obj _, object_init_meets F.bm_called.init.lookup F.bm_called.made (by decide) prog w A.in1 _ s₁ ⟨h₁.1, rfl, h₁.2⟩⟩
end
-- PET
section
open PySem.AutoSeq1 (wpAny_loadPart')
section
variable {prog : Program} {w : World} {A : Around} {E : Value → Shared → Prop} {s : Shared}
theorem tup_next_item {it t : Addr} {i : Nat} {items : Array Value} {x : Value} {Q : Value → Shared → Prop} (hit : s.heap.IsTupleIter it t i) (ht : s.heap.IsTuple t items) (hx : items[i]? = some x)
    (hQ : ∀ h', h'.IsTupleIter it t (i + 1) → Heap.SameBut it s.heap h' → Q x { s with heap := h' }) : wpAny (model prog w) A (Builtin.SmallTypes.nextOf (.ref it)) Q E s := by
  obtain ⟨o, ho, hc, hd⟩ := id hit
  obtain ⟨ol, hol, _, nl, hdl⟩ := ht
  unfold Builtin.SmallTypes.nextOf
  refine wpAny_bind (wpAny_callSpecial?_slot (name := Str.ofString "__next__") hit.typeIs F.slot_tuple_iterator_next (wpAny_call_entry F.slot_tuple_iterator_next hit.typeIs F.entry_tuple_iterator_next ?_ (F.args_tuple_iterator_next_1 _)))
  show wpAny _ _ (field (.ref it) 0 >>= _) _ _ s
  refine wpAny_bind (wpAny_field ho hd (x := .ref t) rfl ?_)
  show wpAny _ _ (if (Value.ref t == Value.none) = true then _ else _) _ _ s
  rw [if_neg (show ¬ ((Value.ref t == Value.none) = true) from Bool.false_ne_true)]
  show wpAny _ _ (field (.ref it) 1 >>= _) _ _ s
  refine wpAny_bind (wpAny_field ho hd (x := .int i 0) rfl ?_)
  show wpAny _ _ (seqItems? (.ref t) >>= _) _ _ s
  refine wpAny_bind (wpAny_seqItems hol hdl ?_)
  simp only [Int.toNat_natCast, hx]
  refine wpAny_bind (wpAny_setField ho hd (by simp) (wpAny_pure ⟨x, rfl, wpAny_pure (hQ _ ?_ (Heap.SameBut.update ..))⟩))
  exact ⟨_, Heap.get?_update_self _ ho (Obj.isFreed_of_fields (Obj.data_mapFields hd _)), (Obj.cls_mapFields ..).trans hc, by
    rw [Obj.data_mapFields hd]; simp [rawInt]⟩
theorem tup_next_end {it t : Addr} {i : Nat} {items : Array Value} {Q : Value → Shared → Prop} (hh : A.handled = none) (hit : s.heap.IsTupleIter it t i) (ht : s.heap.IsTuple t items) (hx : items[i]? = none)
    (hE : ∀ h' e, Heap.ExtBut it s.heap h' → (∃ o, h'.get? e = some o ∧ o.cls = .type "StopIteration") → E (.ref e) { s with heap := h' }) : wpAny (model prog w) A (Builtin.SmallTypes.nextOf (.ref it)) Q E s := by
  obtain ⟨o, ho, hc, hd⟩ := id hit
  obtain ⟨ol, hol, _, nl, hdl⟩ := ht
  unfold Builtin.SmallTypes.nextOf
  refine wpAny_bind (wpAny_callSpecial?_slot (name := Str.ofString "__next__") hit.typeIs F.slot_tuple_iterator_next (wpAny_call_entry F.slot_tuple_iterator_next hit.typeIs F.entry_tuple_iterator_next ?_ (F.args_tuple_iterator_next_1 _)))
  show wpAny _ _ (field (.ref it) 0 >>= _) _ _ s
  refine wpAny_bind (wpAny_field ho hd (x := .ref t) rfl ?_)
  show wpAny _ _ (if (Value.ref t == Value.none) = true then _ else _) _ _ s
  rw [if_neg (show ¬ ((Value.ref t == Value.none) = true) from Bool.false_ne_true)]
  show wpAny _ _ (field (.ref it) 1 >>= _) _ _ s
  refine wpAny_bind (wpAny_field ho hd (x := .int i 0) rfl ?_)
  show wpAny _ _ (seqItems? (.ref t) >>= _) _ _ s
  refine wpAny_bind (wpAny_seqItems hol hdl ?_)
  simp only [Int.toNat_natCast, hx]
  refine wpAny_bind (wpAny_rule (wpAny_bind (wpAny_setField ho hd (by simp) ?_)))
  show wpAny _ _ (newExc (.type "StopIteration") [] >>= _) _ _ _
  refine wpAny_bind ?_
  simp only [newExc, newTuple]
  refine wpAny_bind (wpAny_newObj_type ?_ (by size_fits))
  refine wpAny_bind (m := firstArgMember _ _) (wpAny_of_eq (a := Value.none) (by first | rfl | (simp only [firstArgMember]; rfl)) ?_)
  refine wpAny_newObj_type ?_ (by size_fits)
  simp only [raiseNew]
  refine wpAny_bind (wpAny_handled ?_)
  first | rw [show A.in1.handled = none from hh] | rw [hh]
  refine wpAny_bind (wpAny_pure (wpAny_throw ?_))
  exact hE _ _ (((Heap.SameBut.update ..).extBut.push _).push _) ⟨_, Heap.get?_push_size _ rfl, rfl⟩
theorem tup_draws (hh : A.handled = none) (it l : Addr) (hne : l ≠ it) (items : Array Value) :
    Draws prog w A it [it, l] items.size (fun i v => items[i]? = some v) (fun i h => h.IsTupleIter it l i ∧ h.IsTuple l items) where
  live := fun _ _ st => let ⟨o, ho, _⟩ := st.1; ⟨o, ho⟩
  frame := fun _ _ _ st hk => ⟨st.1.at fun o e => hk it (by simp) o e, st.2.at fun o e => hk l (by simp) o e⟩
  item := fun i s Q E hi st hQ => by
    refine tup_next_item st.1 st.2 (x := items[i]) (by simp [hi]) fun h' hit' hs' => ?_
    exact hQ _ h' s.toks (by simp [hi]) ⟨hit', st.2.extBut hs'.extBut hne⟩ hs'
  done := fun s Q E st hE => tup_next_end hh st.1 st.2 (by simp) hE
theorem enum_new_tup (l : Addr) (items : Array Value) (n : Nat) (dct : Option Addr) (sl : Array (Option Value)) :
    Meets (Builtin.«enumerate.__new__» ⟨[.type "enumerate", .ref l], []⟩) (fun _ R s => s.heap.get? l = some { cls := .type "tuple", dict := dct, data := .seq items n, slots := sl } ∧
      R (.ok (.ret (.ref (s.heap.push { cls := .type "tuple_iterator", data := .fields #[.ref l, .int 0 0] }).objs.size)))
        { s with heap := (s.heap.push { cls := .type "tuple_iterator", data := .fields #[.ref l, .int 0 0] }).push { cls := .type "enumerate", data := .fields #[.none, .bool false, .ref s.heap.objs.size, rawInt 0, .none, .none] } }) :=
  .of_wp fun prog w A R s h => by
    obtain ⟨hp, g, d, tk, os⟩ := s; obtain ⟨hl, h⟩ := h
    have hsub := sub_enumerate
    have hL : Heap.IsTuple (Shared.heap ⟨hp, g, d, tk, os⟩) l items := ⟨_, hl, rfl, n, rfl⟩
    wp_walk using wpAny_loadPart' hl
    refine wpAny_stack_any fun st => wpAny_pure ?_
    split
    · rename_i c _ _ _ _ _
      cases (c == Value.type "enumerate")
      · wp_walk using wpAny_loadPart' hl, wpAny_pyIter_tuple hL
        exact ⟨_, rfl, h⟩
      · wp_walk using wpAny_loadPart' hl, wpAny_pyIter_tuple hL
        exact ⟨_, rfl, h⟩
    · wp_walk using wpAny_loadPart' hl, wpAny_pyIter_tuple hL
      exact ⟨_, rfl, h⟩
theorem call_enum_tup {l : Addr} {items : Array Value} {Q : Value → Shared → Prop} (hL : s.heap.IsTuple l items)
    (h : ∀ h', IsEnum h' (s.heap.objs.size + 1) s.heap.objs.size 0 .none → h'.IsTupleIter s.heap.objs.size l 0 → h'.objs.size = s.heap.objs.size + 2 →
      (∀ b o, s.heap.get? b = some o → h'.get? b = some o) → Q (.ref (s.heap.objs.size + 1)) { s with heap := h' }) :
    wpAny (model prog w) A (call (.type "enumerate") [.ref l]) Q E s := by
  obtain ⟨⟨c, dct, dt, sl⟩, hl, hc, n, hd⟩ := hL
  replace hc : c = .type "tuple" := hc
  replace hd : dt = .seq items n := hd
  subst hc hd
  refine callType_new F.called_enumerate (by decide) (F.typeCall_enumerate_1 _) (F.newCall_enumerate_1 _) (fun obj => F.args_object_init_2 obj _) F.entry_enumerate_new
    (enum_new_tup l items n dct sl) ⟨hl, ?_⟩
  have hz : (s.heap.push { cls := .type "tuple_iterator", data := .fields #[.ref l, .int 0 0] }).objs.size = s.heap.objs.size + 1 := Heap.size_push ..
  show _ ∧ _
  rw [hz]
  have he : IsEnum ((s.heap.push { cls := .type "tuple_iterator", data := .fields #[.ref l, .int 0 0] }).push
      { cls := .type "enumerate", data := .fields #[.none, .bool false, .ref s.heap.objs.size, rawInt 0, .none, .none] }) (s.heap.objs.size + 1) s.heap.objs.size 0 .none := by
    have := Heap.get?_push_size (s.heap.push { cls := .type "tuple_iterator", data := .fields #[.ref l, .int 0 0] })
      (o := { cls := .type "enumerate", data := .fields #[.none, .bool false, .ref s.heap.objs.size, rawInt 0, .none, .none] }) rfl
    rw [hz] at this; exact this
  refine ⟨⟨_, he, rfl⟩, h _ he ⟨_, Heap.get?_push_of_some _ (Heap.get?_push_size _ rfl), rfl, rfl⟩ (by rw [Heap.size_push, hz]) fun b o x => Heap.get?_push_of_some _ (Heap.get?_push_of_some _ x)⟩
theorem for_enum_tup {env : Env} {h₀ : Heap} {body : List Stmt} {Q : Flow → Shared → Prop} {elts : List Expr} {kk : Nat} {pos : Pos} {l : Addr} {vs : List Value} {m₀ : Str → Option Value} {news : Led}
    (hh : A.handled = none) (F : Fr h₀ env.locals s.heap m₀) (N : News h₀ env.locals s.heap news) (hl : s.heap.IsTuple l vs.toArray) (hlL : env.locals ≠ l)
    (J : Nat → (Str → Option Value) → Led → Prop) (h0 : J 0 m₀ news)
    (turn : ∀ (i : Nat) v t T m₁ n₁ own h tk, vs[i]? = some v → IsTup h T #[.int (i : Int) t, v] → J i m₁ n₁ → Off [s.heap.objs.size + 1, s.heap.objs.size] n₁ → (∀ b ∈ [s.heap.objs.size + 1, s.heap.objs.size], ∃ o, (b, o) ∈ own) → (∀ p ∈ own, p.1 ∈ ((s.heap.objs.size + 1) :: [s.heap.objs.size, l])) → Fr h₀ env.locals h m₁ → News h₀ env.locals h (n₁ ++ own) →
      wpAny (model prog w) A (assign (.Tuple elts kk pos) env (.ref T)) (fun _ s₃ => wpAny (model prog w) A (execs body env) (TurnPost h₀ env.locals [s.heap.objs.size + 1, s.heap.objs.size] own (J (i + 1)) { s with heap := h, toks := tk } Q) E s₃) E { s with heap := h, toks := tk })
    (done : ∀ m₁ n₁ h tk, J vs.length m₁ n₁ → Fr h₀ env.locals h m₁ → News h₀ env.locals h n₁ → Q .next { s with heap := h, toks := tk }) :
    wpAny (model prog w) A (call (.type "enumerate") [.ref l]) (fun xv s₁ => wpAny (model prog w) A (pyIter xv) (fun it s₂ => TurnsAt prog w A h₀ env (.Tuple elts kk pos) body Q E it s₂) E s₁) E s := by
  have hlt : l < s.heap.objs.size := by obtain ⟨o, e, _⟩ := hl; exact Heap.lt_size e
  have hLs : env.locals < s.heap.objs.size := F.ns.lt
  refine call_enum_tup hl fun h' hE hI hsz hk => ?_
  refine wpAny_pyIter_enum hE ?_
  have D := tup_draws (prog := prog) (w := w) (A := A.in1) hh s.heap.objs.size l (Nat.ne_of_lt hlt) vs.toArray
  refine turnsJ (KTurns.ofWalksU (WalksT.enumerateD D (s.heap.objs.size + 1) (Nat.succ_ne_self _) (by simp only [List.mem_cons, List.not_mem_nil, or_false, not_or]; exact ⟨Nat.succ_ne_self _, (ktu_ne 1 hlt).symm⟩) (.head _)).toU) (fun i h st b hb => ?_) ?_ (fun b hb => ?_) (fun p hp hI => ?_) ?_ (F.keeps hk) (N.grown hk) J h0
    (fun i v m₁ n₁ own h tk _ hP hJ ho hw hs F₁ N₁ => ?_) (fun m₁ n₁ h tk hj => done m₁ n₁ h tk (by simpa using hj))
  · obtain ⟨⟨old, he⟩, ⟨oi, hoi, _⟩, _⟩ := st
    rcases List.mem_cons.mp hb with rfl | hb
    · exact ⟨_, he⟩
    · rw [List.mem_singleton.mp hb]; exact ⟨oi, hoi⟩
  · intro hI'
    rcases List.mem_cons.mp hI' with e | hI'
    · exact ktu_ne 1 hLs e
    · rcases List.mem_cons.mp hI' with e | hI'
      · exact Nat.ne_of_lt hLs e
      · exact hlL (List.mem_singleton.mp hI')
  · rcases List.mem_cons.mp hb with rfl | hb
    · exact ktu_new F (Nat.le_add_right _ _)
    · rw [List.mem_singleton.mp hb]; exact ktu_new F (Nat.le_refl _)
  · have hlp := Heap.lt_size (N p hp).1
    rcases List.mem_cons.mp hI with e | hI
    · exact ktu_ne 1 hlp e
    · exact Nat.ne_of_lt hlp (List.mem_singleton.mp hI)
  · exact ⟨⟨.none, hE⟩, hI, hl.at fun o e => hk l o e⟩
  · obtain ⟨T, vals, rfl, ⟨t, x, hx, rfl⟩, hT⟩ := hP
    exact turn i x t T m₁ n₁ own h tk (by simpa using hx) hT hJ ho hw hs F₁ N₁
end
end
-- PY
noncomputable def StartI (us : List Int) (i : Nat) : Prop := i = 0 ∨ isHigh (us.getD (i - 1) 0) = false
theorem drop_cons {us : List Int} {i : Nat} (h : i < us.length) : us.drop i = us.getD i 0 :: us.drop (i + 1) := by
  rw [List.drop_eq_getElem_cons h]; simp [List.getD, h]
theorem not_low_start {us : List Int} {i : Nat} (hf : faultS us i = "") (hs : StartI us i) : isLow (us.getD i 0) = false := by
  cases hl : isLow (us.getD i 0)
  · rfl
  · exfalso
    rw [faultS, if_pos hl] at hf
    rcases hs with rfl | hs
    · simp at hf
    · rw [hs] at hf
      simp at hf
theorem mod_high {c : Int} (h : isHigh c = true) : c % 1024 = c - 55296 := by
  have h := high_bounds h
  exact (Int.add_mul_emod_self_left c 1024 (-54)).symm.trans (Int.emod_eq_of_lt (Int.sub_nonneg.mpr h.1) (Int.lt_of_le_of_lt (Int.sub_le_sub_right h.2 _) (by decide)))
theorem mod_low {c : Int} (h : isLow c = true) : c % 1024 = c - 56320 := by
  have h := low_bounds h
  exact (Int.add_mul_emod_self_left c 1024 (-55)).symm.trans (Int.emod_eq_of_lt (Int.sub_nonneg.mpr h.1) (Int.lt_of_le_of_lt (Int.sub_le_sub_right h.2 _) (by decide)))
theorem codes_split {us : List Int} {i : Nat} (hok : ∀ j, j < us.length → faultS us j = "") (hi : i < us.length) (hs : StartI us i) :
    (isHigh (us.getD i 0) = false ∧ isLow (us.getD i 0) = false ∧ codesW (us.drop i) = us.getD i 0 :: codesW (us.drop (i + 1)) ∧ StartI us (i + 1)) ∨
    (isHigh (us.getD i 0) = true ∧ i + 1 < us.length ∧ isLow (us.getD (i + 1) 0) = true ∧ codesW (us.drop i) = (65536 + us.getD i 0 % 1024 * 1024 + us.getD (i + 1) 0 % 1024) :: codesW (us.drop (i + 2)) ∧ StartI us (i + 2)) := by
  have hf := hok i hi
  have hl := not_low_start hf hs
  cases hh : isHigh (us.getD i 0)
  · refine .inl ⟨rfl, hl, ?_, .inr (by simpa using hh)⟩
    rw [drop_cons hi, codesW_low hh]
  · obtain ⟨h1, h2⟩ := fault_high hf hh
    refine .inr ⟨rfl, h1, h2, ?_, .inr (by simpa using low_not_high h2)⟩
    rw [drop_cons hi, drop_cons h1]
    simp only [codesW, hh, if_true]
theorem text_codes_from {us : List Int} (hok : ∀ j, j < us.length → faultS us j = "") : ∀ (n i : Nat), us.length = i + n → StartI us i → codesW (us.drop i) = (List.range' i n).flatMap (textAt us) := by
  intro n
  induction n using Nat.strongRecOn with
  | _ n ih =>
    intro i hlen hs
    match n, hlen, ih with
    | 0, hlen, _ => rw [List.drop_of_length_le (by omega)]; rfl
    | n + 1, hlen, ih =>
      rcases codes_split hok (by omega) hs with ⟨hh, hl, e, hs'⟩ | ⟨hh, h1, h2, e, hs'⟩
      · rw [e, ih n (by omega) (i + 1) (by omega) hs']
        simp only [List.range'_succ, List.flatMap_cons, textAt, hh, hl, Bool.false_eq_true, if_false, List.cons_append, List.nil_append]
      · match n, hlen, ih with
        | 0, hlen, _ => omega
        | n + 1, hlen, ih =>
          rw [e, ih n (by omega) (i + 2) (by omega) hs']
          simp only [List.range'_succ, List.flatMap_cons]
          have e2 : textAt us (i + 1) = [] := by
            unfold textAt
            rw [low_not_high h2, if_neg (by decide), if_pos h2]
          have e1 : textAt us i = [65536 + us.getD i 0 % 1024 * 1024 + us.getD (i + 1) 0 % 1024] := by
            unfold textAt
            rw [if_pos hh, mod_high hh, mod_low h2]
          rw [e1, e2]
          rfl
theorem text_codes {us : List Int} (hok : ∀ j, j < us.length → faultS us j = "") : textL us us.length = codesW us := by
  have h := text_codes_from hok us.length 0 (by omega) (.inl rfl)
  rw [List.drop_zero] at h
  rw [h, textL, List.range_eq_range']
theorem mod_in (c : Int) : 0 ≤ c % 1024 ∧ c % 1024 < 1024 := ⟨Int.emod_nonneg _ (by decide), Int.emod_lt_of_pos _ (by decide)⟩
theorem isScal_big {c : Int} (h : 65536 ≤ c) (h2 : c ≤ 1114111) : isScal c = true := by
  rw [isScal, isSur, decide_eq_true (Int.le_trans (by decide) h : 0 ≤ c), decide_eq_true h2, decide_eq_false (fun e => absurd (Int.le_trans h e) (by decide) : ¬ c ≤ 57343), Bool.and_false]; rfl
theorem pair_lo {x y : Int} (h0 : 0 ≤ y) (h1 : y < 1024) : (65536 + x * 1024 + y) % 1024 = y := by omega
theorem pair_hi {x y : Int} (h0 : 0 ≤ y) (h1 : y < 1024) : (65536 + x * 1024 + y - 65536) / 1024 = x := by omega
theorem pair_ge {x y : Int} (h : 0 ≤ x) (h0 : 0 ≤ y) : 65536 ≤ 65536 + x * 1024 + y := by omega
theorem pair_le {x y : Int} (h : x < 1024) (h1 : y < 1024) : 65536 + x * 1024 + y ≤ 1114111 := by omega
theorem units_codes_from {us : List Int} (hr : ∀ j, j < us.length → 0 ≤ us.getD j 0 ∧ us.getD j 0 ≤ 65535) (hok : ∀ j, j < us.length → faultS us j = "") : ∀ (n i : Nat), us.length = i + n → StartI us i → unitsL (codesW (us.drop i)) = us.drop i ∧ ∀ c ∈ codesW (us.drop i), isScal c = true := by
  intro n
  induction n using Nat.strongRecOn with
  | _ n ih =>
    intro i hlen hs
    match n, hlen, ih with
    | 0, hlen, _ => rw [List.drop_of_length_le (by omega)]; exact ⟨rfl, fun _ h => nomatch h⟩
    | n + 1, hlen, ih =>
      have hi : i < us.length := by omega
      rcases codes_split hok hi hs with ⟨hh, hl, e, hs'⟩ | ⟨hh, h1, h2, e, hs'⟩
      · obtain ⟨u1, u2⟩ := ih n (by omega) (i + 1) (by omega) hs'
        have hb := hr i hi
        constructor
        · rw [e, drop_cons hi, unitsL, List.flatMap_cons]
          rw [unitsL] at u1
          rw [u1, unitsOf, if_pos (by omega)]
          rfl
        · rw [e]
          intro c hc
          rcases List.mem_cons.mp hc with rfl | hc
          · simp only [isHigh, isLow, Bool.and_eq_false_iff, decide_eq_false_iff_not] at hh hl
            simp only [isScal, isSur, Bool.and_eq_true, Bool.not_eq_true', decide_eq_true_eq, Bool.and_eq_false_iff, decide_eq_false_iff_not]
            omega
          · exact u2 c hc
      · match n, hlen, ih with
        | 0, hlen, _ => omega
        | n + 1, hlen, ih =>
          obtain ⟨u1, u2⟩ := ih n (by omega) (i + 2) (by omega) hs'
          have hb1 := high_bounds hh
          have hb2 := low_bounds h2
          have m1 := mod_high hh
          have m2 := mod_low h2
          have x1 := mod_in (us.getD i 0)
          have x2 := mod_in (us.getD (i + 1) 0)
          constructor
          · rw [e, drop_cons hi, drop_cons h1, unitsL, List.flatMap_cons]
            rw [unitsL] at u1
            rw [u1, unitsOf, if_neg (Int.not_lt.mpr (pair_ge x1.1 x2.1)), pair_lo x2.1 x2.2, pair_hi x2.1 x2.2, m1, m2, List.cons_append, List.cons_append, List.nil_append]
            congr 1
            · exact (Int.add_comm _ _).trans (Int.sub_add_cancel _ _)
            · congr 1
              exact (Int.add_comm _ _).trans (Int.sub_add_cancel _ _)
          · rw [e]
            intro c hc
            rcases List.mem_cons.mp hc with rfl | hc
            · exact isScal_big (pair_ge x1.1 x2.1) (pair_le x1.2 x2.2)
            · exact u2 c hc
theorem units_codes {us : List Int} (hr : ∀ j, j < us.length → 0 ≤ us.getD j 0 ∧ us.getD j 0 ≤ 65535) (hok : ∀ j, j < us.length → faultS us j = "") : unitsL (codesW us) = us ∧ ∀ c ∈ codesW us, isScal c = true := by
  have h := units_codes_from hr hok us.length 0 (by omega) (.inl rfl)
  rwa [List.drop_zero] at h
theorem mended_len (us : List Int) : (mendedL us).length = us.length := by simp [mendedL]
theorem mended_at {us : List Int} {i : Nat} (h : i < us.length) : (mendedL us).getD i 0 = if faultS us i = "" then us.getD i 0 else 65533 := by
  rw [mendedL, List.getD_eq_getElem?_getD, List.getElem?_map, List.getElem?_range h]
  rfl
theorem mended_ok (us : List Int) : ∀ i, i < us.length → faultS (mendedL us) i = "" := by
  intro i hi
  have e := mended_at hi
  by_cases hf : faultS us i = ""
  · rw [if_pos hf] at e
    unfold faultS
    rw [e, mended_len]
    by_cases hl : isLow (us.getD i 0) = true
    · rw [if_pos hl]
      have hf' := hf
      rw [faultS, if_pos hl] at hf'
      by_cases hc : (decide (0 < i) && isHigh (us.getD (i - 1) 0)) = true
      · simp only [Bool.and_eq_true, decide_eq_true_eq] at hc
        have hi1 : i - 1 < us.length := by omega
        have hf1 : faultS us (i - 1) = "" := by
          rw [faultS, high_not_low hc.2, if_neg (by decide), if_pos hc.2, if_pos]
          simp only [Bool.and_eq_true, decide_eq_true_eq]
          rw [show i - 1 + 1 = i by omega]
          exact ⟨hi, hl⟩
        rw [mended_at hi1, if_pos hf1, if_pos]
        simp only [Bool.and_eq_true, decide_eq_true_eq]
        exact hc
      · exfalso
        rw [if_neg hc] at hf'
        exact absurd hf' (by decide)
    · rw [if_neg hl]
      by_cases hh : isHigh (us.getD i 0) = true
      · rw [if_pos hh]
        obtain ⟨h1, h2⟩ := fault_high hf hh
        have hf1 : faultS us (i + 1) = "" := by
          rw [faultS, if_pos h2, if_pos]
          simp only [Bool.and_eq_true, decide_eq_true_eq]
          exact ⟨by omega, by simpa using hh⟩
        rw [mended_at h1, if_pos hf1, if_pos]
        simp only [Bool.and_eq_true, decide_eq_true_eq]
        exact ⟨h1, h2⟩
      · rw [if_neg hh]
  · rw [if_neg hf] at e
    unfold faultS
    rw [e]
    rfl
theorem mended_of_ok {us : List Int} (h : ∀ i, i < us.length → faultS us i = "") : mendedL us = us := by
  apply List.ext_getElem
  · simp [mendedL]
  · intro i h1 h2
    have e := mended_at (us := us) (i := i) h2
    rw [if_pos (h i h2)] at e
    simpa [List.getD, h1, h2] using e
theorem mended_twice (us : List Int) : mendedL (mendedL us) = mendedL us := mended_of_ok fun i hi => mended_ok us i (by rwa [mended_len] at hi)
theorem mended_in {us : List Int} (h : ∀ c ∈ us, 0 ≤ c ∧ c ≤ 65535) : ∀ j, j < (mendedL us).length → 0 ≤ (mendedL us).getD j 0 ∧ (mendedL us).getD j 0 ≤ 65535 := by
  intro j hj
  rw [mended_len] at hj
  rw [mended_at hj]
  split
  · apply h
    have : us.getD j 0 = us[j] := by simp [List.getD, hj]
    rw [this]; exact List.getElem_mem hj
  · decide
theorem codes_len : ∀ (n : Nat) (us : List Int), us.length ≤ n → (codesW us).length ≤ us.length := by
  intro n
  induction n using Nat.strongRecOn with
  | _ n ih =>
    intro us hn
    match us, hn with
    | [], _ => exact Nat.le_refl _
    | [u], _ => simp only [codesW]; split <;> simp
    | u :: v :: r, hn =>
      simp only [List.length_cons] at hn
      simp only [codesW]
      split
      · have := ih (n - 2) (by omega) r (by omega)
        simp only [List.length_cons]; omega
      · have := ih (n - 1) (by omega) (v :: r) (by simp only [List.length_cons]; omega)
        simp only [List.length_cons] at *; omega
-- PLT
section
open PySem.SeqAt PySem.MeetsSeq PySem.MeetsSeq2 PySem.MeetsSeq3 PySem.SeqRoads2
open PySem.AutoSeq1 (wpAny_loadPart')
noncomputable def ltL : List Int → List Int → Bool
  | [], [] => false
  | [], _ :: _ => true
  | _ :: _, [] => false
  | a :: r, b :: s => if a = b then ltL r s else decide (a < b)
theorem ltL_end {ns ms : List Int} {i : Nat} (h1 : i ≤ ns.length) (h2 : i ≤ ms.length) (h : i = ns.length ∨ i = ms.length) : ltL (ns.drop i) (ms.drop i) = decide (ns.length < ms.length) := by
  rcases Nat.lt_or_ge i ns.length with g1 | g1
  · have e2 : ms.drop i = [] := List.drop_of_length_le (by omega)
    rw [drop_at g1, e2, ltL, decide_eq_false (by omega)]
  · have e1 : ns.drop i = [] := List.drop_of_length_le g1
    rcases Nat.lt_or_ge i ms.length with g2 | g2
    · rw [e1, drop_at g2, ltL, decide_eq_true (by omega)]
    · rw [e1, List.drop_of_length_le g2, ltL, decide_eq_false (by omega)]
theorem ltL_step {ns ms : List Int} {i : Nat} (h1 : i < ns.length) (h2 : i < ms.length) : ltL (ns.drop i) (ms.drop i) = if ns.getD i 0 = ms.getD i 0 then ltL (ns.drop (i + 1)) (ms.drop (i + 1)) else decide (ns.getD i 0 < ms.getD i 0) := by
  rw [drop_at h1, drop_at h2, ltL]
theorem ints_at {vs : List Value} {ns : List Int} (h : IntsAre vs ns) {i : Nat} (hi : i < ns.length) : ∃ t, vs[i]? = some (.int (ns.getD i 0) t) := by
  have hl := IntsAre.length h
  obtain ⟨_, t, e⟩ := ints_item h (i := i) (v := vs[i]) (List.getElem?_eq_getElem (by omega))
  exact ⟨t, by rw [List.getElem?_eq_getElem (by omega), e]⟩
theorem cmpI_lt {prog : Program} {w : World} {A : Around} {E : Value → Shared → Prop} {s : Shared} {a b : Int} {t u : Tok} {Q : Value → Shared → Prop} (h : Q (.bool (decide (a < b))) s) : wpAny (model prog w) A (richCompare .Lt (.int a t) (.int b u)) Q E s := lt_int h
theorem cmpI_gt {prog : Program} {w : World} {A : Around} {E : Value → Shared → Prop} {s : Shared} {a b : Int} {t u : Tok} {Q : Value → Shared → Prop} (h : Q (.bool (decide (b < a))) s) : wpAny (model prog w) A (richCompare .Gt (.int a t) (.int b u)) Q E s := gt_int h
theorem lt_loopAt (l b : Addr) (xs ys : List Value) (ns ms : List Int) (hx : IntsAre xs ns) (hy : IntsAre ys ms) (n n2 : Nat) (dd dd2 : Option Addr) (sl sl2 : Array (Option Value)) (k : Nat) :
    ∀ i : Nat, ns.length - i = k → i ≤ ns.length → i ≤ ms.length → Meets (Builtin.«list.__eq__.loop» ⟨[.ref l, .ref b, rawInt i, rawInt 0], []⟩)
      (fun A R s => s.heap.get? l = some { cls := .type "list", dict := dd, data := .seq xs.toArray n, slots := sl } ∧ s.heap.get? b = some { cls := .type "list", dict := dd2, data := .seq ys.toArray n2, slots := sl2 } ∧
        R (.ok (.ret (.bool (ltL (ns.drop i) (ms.drop i))))) s) := by
  have hxl := IntsAre.length hx
  have hyl := IntsAre.length hy
  induction k with
  | zero =>
    intro i hk hi1 hi2 prog w A R s h
    obtain ⟨hp, g, d, tk, os⟩ := s; obtain ⟨hl, hb, h⟩ := h
    wp_walk using wpAny_loadPart' hl, wpAny_loadPart' hb
    have e1 : xs.toArray[((i : Nat) : Int).toNat]? = none := by simp; omega
    rw [ltL_end hi1 hi2 (.inl (by omega))] at h
    rw [e1]
    wp_walk using wpAny_loadPart' hl, wpAny_loadPart' hb
    show R (.ok (.ret (.bool (decide (xs.toArray.size < ys.toArray.size))))) _
    simp only [List.size_toArray, hxl, hyl, GT.gt]
    exact h
  | succ k ih =>
    intro i hk hi1 hi2 prog w A R s h
    obtain ⟨hp, g, d, tk, os⟩ := s; obtain ⟨hl, hb, h⟩ := h
    wp_walk using wpAny_loadPart' hl, wpAny_loadPart' hb
    have h1 : i < ns.length := by omega
    obtain ⟨t1, e1⟩ := ints_at hx h1
    have e1' : xs.toArray[((i : Nat) : Int).toNat]? = some (.int (ns.getD i 0) t1) := by simpa using e1
    rw [e1']
    rcases Nat.lt_or_ge i ms.length with h2 | h2
    · obtain ⟨t2, e2⟩ := ints_at hy h2
      have e2' : ys.toArray[((i : Nat) : Int).toNat]? = some (.int (ms.getD i 0) t2) := by simpa using e2
      rw [e2']
      rw [ltL_step h1 h2] at h
      refine wpAny_bind (EqAt.int_int (A := A.in1) (ns.getD i 0) t1 (ms.getD i 0) t2 prog w _ _ ?_)
      by_cases he : ns.getD i 0 = ms.getD i 0
      · have hc : ((i : Int) + 1) = ((i + 1 : Nat) : Int) := by push_cast; rfl
        rw [if_pos he] at h
        rw [show (ns.getD i 0 == ms.getD i 0) = true from beq_iff_eq.mpr he]
        wp_walk
        rw [hc]
        exact ⟨plainId_quiet plain_eq_loop _, codeAny_builtin entry_eq_loop (by
          rw [Around.under_plainId plain_eq_loop _]
          exact ih (i + 1) (by omega) (by omega) (by omega) prog w A R _ ⟨hl, hb, h⟩)⟩
      · rw [if_neg he] at h
        rw [show (ns.getD i 0 == ms.getD i 0) = false from beq_eq_false_iff_ne.mpr he]
        wp_walk using wpAny_loadPart' hl, wpAny_loadPart' hb
        rw [e1', e2']
        wp_walk using cmpI_lt
        exact h
    · have e2' : ys.toArray[((i : Nat) : Int).toNat]? = none := by simp; omega
      rw [e2']
      rw [ltL_end hi1 hi2 (.inr (by omega))] at h
      wp_walk using wpAny_loadPart' hl, wpAny_loadPart' hb
      show R (.ok (.ret (.bool (decide (xs.toArray.size < ys.toArray.size))))) _
      simp only [List.size_toArray, hxl, hyl, GT.gt]
      exact h
theorem gt_loopAt (l b : Addr) (xs ys : List Value) (ns ms : List Int) (hx : IntsAre xs ns) (hy : IntsAre ys ms) (n n2 : Nat) (dd dd2 : Option Addr) (sl sl2 : Array (Option Value)) (k : Nat) :
    ∀ i : Nat, ns.length - i = k → i ≤ ns.length → i ≤ ms.length → Meets (Builtin.«list.__eq__.loop» ⟨[.ref l, .ref b, rawInt i, rawInt 4], []⟩)
      (fun A R s => s.heap.get? l = some { cls := .type "list", dict := dd, data := .seq xs.toArray n, slots := sl } ∧ s.heap.get? b = some { cls := .type "list", dict := dd2, data := .seq ys.toArray n2, slots := sl2 } ∧
        R (.ok (.ret (.bool (ltL (ms.drop i) (ns.drop i))))) s) := by
  have hxl := IntsAre.length hx
  have hyl := IntsAre.length hy
  induction k with
  | zero =>
    intro i hk hi1 hi2 prog w A R s h
    obtain ⟨hp, g, d, tk, os⟩ := s; obtain ⟨hl, hb, h⟩ := h
    wp_walk using wpAny_loadPart' hl, wpAny_loadPart' hb
    have e1 : xs.toArray[((i : Nat) : Int).toNat]? = none := by simp; omega
    rw [ltL_end hi2 hi1 (.inr (by omega))] at h
    rw [e1]
    wp_walk using wpAny_loadPart' hl, wpAny_loadPart' hb
    show R (.ok (.ret (.bool (decide (xs.toArray.size > ys.toArray.size))))) _
    simp only [List.size_toArray, hxl, hyl, GT.gt]
    exact h
  | succ k ih =>
    intro i hk hi1 hi2 prog w A R s h
    obtain ⟨hp, g, d, tk, os⟩ := s; obtain ⟨hl, hb, h⟩ := h
    wp_walk using wpAny_loadPart' hl, wpAny_loadPart' hb
    have h1 : i < ns.length := by omega
    obtain ⟨t1, e1⟩ := ints_at hx h1
    have e1' : xs.toArray[((i : Nat) : Int).toNat]? = some (.int (ns.getD i 0) t1) := by simpa using e1
    rw [e1']
    rcases Nat.lt_or_ge i ms.length with h2 | h2
    · obtain ⟨t2, e2⟩ := ints_at hy h2
      have e2' : ys.toArray[((i : Nat) : Int).toNat]? = some (.int (ms.getD i 0) t2) := by simpa using e2
      rw [e2']
      rw [ltL_step h2 h1] at h
      refine wpAny_bind (EqAt.int_int (A := A.in1) (ns.getD i 0) t1 (ms.getD i 0) t2 prog w _ _ ?_)
      by_cases he : ns.getD i 0 = ms.getD i 0
      · have hc : ((i : Int) + 1) = ((i + 1 : Nat) : Int) := by push_cast; rfl
        rw [if_pos he.symm] at h
        rw [show (ns.getD i 0 == ms.getD i 0) = true from beq_iff_eq.mpr he]
        wp_walk
        rw [hc]
        exact ⟨plainId_quiet plain_eq_loop _, codeAny_builtin entry_eq_loop (by
          rw [Around.under_plainId plain_eq_loop _]
          exact ih (i + 1) (by omega) (by omega) (by omega) prog w A R _ ⟨hl, hb, h⟩)⟩
      · rw [if_neg (fun e => he e.symm)] at h
        rw [show (ns.getD i 0 == ms.getD i 0) = false from beq_eq_false_iff_ne.mpr he]
        wp_walk using wpAny_loadPart' hl, wpAny_loadPart' hb
        rw [e1', e2']
        wp_walk using cmpI_gt
        exact h
    · have e2' : ys.toArray[((i : Nat) : Int).toNat]? = none := by simp; omega
      rw [e2']
      rw [ltL_end hi2 hi1 (.inl (by omega))] at h
      wp_walk using wpAny_loadPart' hl, wpAny_loadPart' hb
      show R (.ok (.ret (.bool (decide (xs.toArray.size > ys.toArray.size))))) _
      simp only [List.size_toArray, hxl, hyl, GT.gt]
      exact h
theorem lt_listAt (l b : Addr) (xs ys : List Value) (ns ms : List Int) (hx : IntsAre xs ns) (hy : IntsAre ys ms) (n n2 : Nat) (dd dd2 : Option Addr) (sl sl2 : Array (Option Value)) :
    Meets (Builtin.«list.__lt__» ⟨[.ref l, .ref b], []⟩)
      (fun A R s => s.heap.get? l = some { cls := .type "list", dict := dd, data := .seq xs.toArray n, slots := sl } ∧ s.heap.get? b = some { cls := .type "list", dict := dd2, data := .seq ys.toArray n2, slots := sl2 } ∧
        R (.ok (.ret (.bool (ltL ns ms)))) s) := by
  intro prog w A R s h
  obtain ⟨hp, g, d, tk, os⟩ := s; obtain ⟨hl, hb, h⟩ := h
  have f3 := AutoSeq1.sub_list_list
  wp_walk using wpAny_loadPart' hl, wpAny_loadPart' hb
  exact ⟨plainId_quiet plain_eq_loop _, codeAny_builtin entry_eq_loop (by
    rw [Around.under_plainId plain_eq_loop _]
    exact lt_loopAt l b xs ys ns ms hx hy n n2 dd dd2 sl sl2 _ 0 rfl (Nat.zero_le _) (Nat.zero_le _) prog w A R _ ⟨hl, hb, by simpa using h⟩)⟩
theorem lt_ints {prog : Program} {w : World} {A : Around} {E : Value → Shared → Prop} {s : Shared} {a b : Addr} {xs ys : List Value} {ns ms : List Int} {Q : Value → Shared → Prop} (ha : s.heap.IsList a xs.toArray) (hb : s.heap.IsList b ys.toArray) (hi : IntsAre xs ns) (hj : IntsAre ys ms) (hu : A.units < cLine) (h : Q (.bool (ltL ns ms)) s) :
    wpAny (model prog w) A (compareOp .Lt (.ref a) (.ref b)) Q E s := by
  obtain ⟨⟨cls, dd, data, sl⟩, ho, hc, n, hd⟩ := id ha
  obtain ⟨⟨cls2, dd2, data2, sl2⟩, ho2, hc2, n2, hd2⟩ := id hb
  simp only at hc hd hc2 hd2
  subst hc hd hc2 hd2
  exact richCompare_meets_room (op := .Lt) ⟨_, ho, rfl⟩ ⟨_, ho2, rfl⟩ F.slot_list_lt F.entry_list_lt (F.args_list_lt_2 _ _) (lt_listAt a b xs ys ns ms hi hj n n2 dd dd2 sl sl2)
    ⟨ho, ho2, show Value.bool (ltL ns ms) ≠ Value.notImplemented ∧ Q (.bool (ltL ns ms)) s from ⟨(fun x => nomatch x), h⟩⟩ hu
theorem gt_listAt (l b : Addr) (xs ys : List Value) (ns ms : List Int) (hx : IntsAre xs ns) (hy : IntsAre ys ms) (n n2 : Nat) (dd dd2 : Option Addr) (sl sl2 : Array (Option Value)) :
    Meets (Builtin.«list.__gt__» ⟨[.ref l, .ref b], []⟩)
      (fun A R s => s.heap.get? l = some { cls := .type "list", dict := dd, data := .seq xs.toArray n, slots := sl } ∧ s.heap.get? b = some { cls := .type "list", dict := dd2, data := .seq ys.toArray n2, slots := sl2 } ∧
        R (.ok (.ret (.bool (ltL ms ns)))) s) := by
  intro prog w A R s h
  obtain ⟨hp, g, d, tk, os⟩ := s; obtain ⟨hl, hb, h⟩ := h
  have f3 := AutoSeq1.sub_list_list
  wp_walk using wpAny_loadPart' hl, wpAny_loadPart' hb
  exact ⟨plainId_quiet plain_eq_loop _, codeAny_builtin entry_eq_loop (by
    rw [Around.under_plainId plain_eq_loop _]
    exact gt_loopAt l b xs ys ns ms hx hy n n2 dd dd2 sl sl2 _ 0 rfl (Nat.zero_le _) (Nat.zero_le _) prog w A R _ ⟨hl, hb, by simpa using h⟩)⟩
theorem gt_ints {prog : Program} {w : World} {A : Around} {E : Value → Shared → Prop} {s : Shared} {a b : Addr} {xs ys : List Value} {ns ms : List Int} {Q : Value → Shared → Prop} (ha : s.heap.IsList a xs.toArray) (hb : s.heap.IsList b ys.toArray) (hi : IntsAre xs ns) (hj : IntsAre ys ms) (hu : A.units < cLine) (h : Q (.bool (ltL ms ns)) s) :
    wpAny (model prog w) A (compareOp .Gt (.ref a) (.ref b)) Q E s := by
  obtain ⟨⟨cls, dd, data, sl⟩, ho, hc, n, hd⟩ := id ha
  obtain ⟨⟨cls2, dd2, data2, sl2⟩, ho2, hc2, n2, hd2⟩ := id hb
  simp only at hc hd hc2 hd2
  subst hc hd hc2 hd2
  exact richCompare_meets_room (op := .Gt) ⟨_, ho, rfl⟩ ⟨_, ho2, rfl⟩ F.slot_list_gt F.entry_list_gt (F.args_list_gt_2 _ _) (gt_listAt a b xs ys ns ms hi hj n n2 dd dd2 sl sl2)
    ⟨ho, ho2, show Value.bool (ltL ms ns) ≠ Value.notImplemented ∧ Q (.bool (ltL ms ns)) s from ⟨(fun x => nomatch x), h⟩⟩ hu
end
-- POR
example : True := by w_top off; k_with_none; trivial
theorem off_same {wr : List Addr} {l l' : Led} (h : Off wr l) (e : l.map (·.1) = l'.map (·.1)) : Off wr l' := fun p hp => by
  have : p.1 ∈ l.map (·.1) := e ▸ List.mem_map_of_mem hp
  obtain ⟨q, hq, e⟩ := List.mem_map.mp this
  exact e ▸ h q hq
theorem off_ne {wr : List Addr} {l : Led} {a b : Addr} {o : Obj} (h : Off wr l) (hm : (a, o) ∈ l) (hb : b ∈ wr) : @Ne Nat b a := fun e => h _ hm (e ▸ hb)
theorem off_cons_new {wr : List Addr} {a : Addr} {own n₂ : Led} (hw : ∀ b ∈ wr, ∃ o, (b, o) ∈ own) (hs : ∀ p ∈ own, p ∈ n₂) (hD : ∀ p ∈ n₂, p.1 ≠ a) : a ∉ wr := fun hm => by
  obtain ⟨o, ho⟩ := hw a hm
  exact hD _ (hs _ ho) rfl
theorem sub_o1 {d2 d c l t : Addr × Obj} {own1 news own : Led} : ∀ p ∈ (l :: t :: ((d2 :: own1) ++ news)) ++ (d :: c :: own), p ∈ d2 :: d :: c :: l :: t :: ((own1 ++ news) ++ own) := fun p hp => by
  simp only [List.mem_append, List.mem_cons] at hp ⊢
  rcases hp with (h | h | (h | h) | h) | h | h | h <;> simp [h]
theorem sub_o2 {d c l t : Addr × Obj} {own1 news own : Led} : ∀ p ∈ d :: c :: own, p ∈ d :: c :: l :: t :: ((own1 ++ news) ++ own) := fun p hp => by
  simp only [List.mem_append, List.mem_cons] at hp ⊢
  rcases hp with h | h | h <;> simp [h]
theorem two_of {ys : List Value} (h : ys.length = 2) : ∃ x y, ys = [x, y] := by
  cases ys with
  | nil => cases h
  | cons x r => cases r with
    | nil => cases h
    | cons y r => cases r with
      | nil => exact ⟨x, y, rfl⟩
      | cons z r => cases h
theorem ltL_pre : ∀ (u x y : List Int), ltL (u ++ x) (u ++ y) = ltL x y
  | [], _, _ => rfl
  | a :: u, x, y => by rw [List.cons_append, List.cons_append, ltL, if_pos rfl, ltL_pre u x y]
noncomputable def scal8 : List Int := [65, 55295, 57344, 65535, 65536, 1114111, 128512, 66]
theorem scal8_scal : ∀ c ∈ scal8, isScal c = true := by decide
theorem scal8_rank : ∀ a ∈ scal8, ∀ b ∈ scal8, a ≠ b → (unitsOf a).headD 0 ≠ (unitsOf b).headD 0 ∧ ltL [(unitsOf a).headD 0] [(unitsOf b).headD 0] = decide (rankI a < rankI b) ∧ decide (rankI b < rankI a) = !decide (rankI a < rankI b) := by decide
theorem unitsOf_cons (a : Int) : ∃ t, unitsOf a = (unitsOf a).headD 0 :: t := by
  unfold unitsOf
  split <;> exact ⟨_, rfl⟩
theorem ltL_codes {a b : Int} (ha : a ∈ scal8) (hb : b ∈ scal8) (h : a ≠ b) (x y : List Int) : ltL (unitsOf a ++ x) (unitsOf b ++ y) = decide (rankI a < rankI b) := by
  obtain ⟨h1, h2, _⟩ := scal8_rank a ha b hb h
  obtain ⟨t, e⟩ := unitsOf_cons a
  obtain ⟨u, f⟩ := unitsOf_cons b
  rw [ltL, if_neg h1] at h2
  rw [e, f, List.cons_append, List.cons_append, ltL, if_neg h1, h2]
theorem order_law : ∀ {xs ys : List Int}, (∀ c ∈ xs, c ∈ scal8) → (∀ c ∈ ys, c ∈ scal8) → orderI xs ys = (if ltL (unitsL ys) (unitsL xs) = true then 1 else 0) - (if ltL (unitsL xs) (unitsL ys) = true then 1 else 0)
  | [], [], _, _ => rfl
  | [], b :: s, _, _ => by
    obtain ⟨t, e⟩ := unitsOf_cons b
    rw [orderI, unitsL, unitsL, List.flatMap_cons, e]
    rfl
  | a :: r, [], _, _ => by
    obtain ⟨t, e⟩ := unitsOf_cons a
    rw [orderI, unitsL, unitsL, List.flatMap_cons, e]
    rfl
  | a :: r, b :: s, hx, hy => by
    have ha := hx a (.head _)
    have hb := hy b (.head _)
    rw [orderI, unitsL, unitsL, List.flatMap_cons, List.flatMap_cons]
    by_cases h : a = b
    · subst h
      rw [if_pos rfl, ltL_pre, ltL_pre]
      exact order_law (fun c hc => hx c (.tail _ hc)) (fun c hc => hy c (.tail _ hc))
    · rw [if_neg h, ltL_codes ha hb h, ltL_codes hb ha (Ne.symm h), (scal8_rank a ha b hb h).2.2]
      by_cases h2 : rankI a < rankI b
      · rw [if_pos h2, decide_eq_true h2]; rfl
      · rw [if_neg h2, decide_eq_false h2]; rfl
theorem order_one {a b : Int} (ha : a ∈ scal8) (hb : b ∈ scal8) : decide (rankI a < rankI b) = ltL (unitsL [a]) (unitsL [b]) := by
  show _ = ltL (unitsOf a ++ []) (unitsOf b ++ [])
  by_cases h : a = b
  · subst h
    rw [ltL_pre, ltL, decide_eq_false (Int.lt_irrefl _)]
  · rw [ltL_codes ha hb h]
theorem getD_mem {us : List Int} {i : Nat} (h : i < us.length) : us.getD i 0 ∈ us := by
  have e : us.getD i 0 = us[i] := by simp [List.getD, h]
  rw [e]; exact List.getElem_mem h
theorem sub_tp {a d : Addr × Obj} {news rest : Led} (h : ∀ p ∈ news, p ∈ rest) : ∀ p ∈ a :: news, p ∈ d :: a :: rest := fun p hp => by
  rcases List.mem_cons.mp hp with rfl | hp
  · exact .tail _ (.head _)
  · exact .tail _ (.tail _ (h p hp))
theorem order_self : ∀ xs : List Int, orderI xs xs = 0
  | [] => rfl
  | a :: r => by rw [orderI, if_pos rfl, order_self r]
theorem scal8_in (v : Int) (h0 : 0 ≤ v) (h1 : v < 8) : ([65, 55295, 57344, 65535, 65536, 1114111, 128512, 66] : List Int).getD v.toNat 0 ∈ scal8 := by
  exact int_cases (P := fun v => ([65, 55295, 57344, 65535, 65536, 1114111, 128512, 66] : List Int).getD v.toNat 0 ∈ scal8) 8 (by decide) h0 h1
inductive ScL (led : Led) (v : Value) : Prop
  | mk : ∀ a vs n us, (v = .ref a) → ((a, listOf vs.toArray n) ∈ led) → (IntsAre vs us) → (us.length ≤ 4) → (∀ c ∈ us, c ∈ scal8) → ScL led v
theorem ScL.sub {a b : Led} {v : Value} (h : ScL a v) (hs : ∀ p ∈ a, p ∈ b) : ScL b v := by
  obtain ⟨x, vs, n, us, e, hm, r, r2, r3⟩ := h
  exact ⟨x, vs, n, us, e, hs _ hm, r, r2, r3⟩
theorem all_app {a b : Led} {x : Addr} (ha : ∀ p ∈ a, p.1 ≠ x) (hb : ∀ p ∈ b, p.1 ≠ x) : ∀ p ∈ a ++ b, p.1 ≠ x := fun p hp => (List.mem_append.mp hp).elim (ha p) (hb p)
theorem own_ne {own : Led} {fp : List Addr} {x : Addr} (h : ∀ p ∈ own, p.1 ∈ fp) (hx : x ∉ fp) : ∀ p ∈ own, p.1 ≠ x := fun p hp e => hx (e ▸ h p hp)
theorem off_not {wr : List Addr} {l : Led} {a : Addr} {o : Obj} (h : Off wr l) (hm : (a, o) ∈ l) : a ∉ wr := h _ hm
theorem snoc_mem {us : List Int} {c : Int} {S : List Int} (h : ∀ c ∈ us, c ∈ S) (hc : c ∈ S) : ∀ d ∈ us ++ [c], d ∈ S := fun d hd => by
  rcases List.mem_append.mp hd with hd | hd
  · exact h d hd
  · rw [List.mem_singleton.mp hd]; exact hc
inductive JOa (L' : Addr) (oc1 : Obj) (TP : Addr) (TL : Addr) (news : Led) (i : Nat) (ys : List Value) (n₁ : Led) : Prop
  | mk : ∀ own1 p' t' n', (n₁ = (L' + 1, oc1) :: (TP, listOf [Value.ref TL, .int p' t'].toArray n') :: (own1 ++ news)) → (0 ≤ p') → ((∀ p ∈ own1, p.1 ≠ TP)) → (ys.length = i) → (∀ v ∈ ys, ScL own1 v) → JOa L' oc1 TP TL news i ys n₁
theorem con_order_right (w : World) (news : Led) (TP TL : Addr) (pos : Int) (t : Tok) (n k : Nat) (vs : List Value) (ns : List Int) (hT : ∀ p ∈ news, p.1 ≠ TP) (hTL : (TL, listOf vs.toArray k) ∈ news) (hi : IntsAre vs ns) (hlen : ns.length ≤ 60) (hp : 0 ≤ pos) :
    Con w 268 [.ref TP] 200 2000 ((TP, listOf [Value.ref TL, .int pos t].toArray n) :: news) (fun k => ∀ p' t' n', 0 ≤ p' → k (.bool true) ((TP, listOf [Value.ref TL, .int p' t'].toArray n') :: news)) := by
  k_with_none
  k_with "call ref" => (k_here; k_dflt (refine' Con.use ?z37kC ?z37k1 ?z37k2 ?z37k3 ?z37k4 ?z37k5 ?z37kK ?z37kd ?z37ku ?_; (case z37k2 => k_asm); (case z37k4 => k_asm); (case z37kC => first | (refine' con_draw _ _ _ _ _ _ _ _ _ _ _ _ _ ?z37b1 ?z37b2 ?z37b3 ?z37b4 ?z37b5 ?z37b6 ?z37b7; (case z37b1 => k_updF); (case z37b2 => k_mem); (case z37b3 => assumption); (case z37b4 => assumption); (case z37b5 => assumption); (case z37b6 => omega); (case z37b7 => omega))); (case z37k1 => k_asm); (case z37k3 => k_asm); (case z37k5 => k_asm); (case z37kK => first | exact rfl | assumption); (case z37kd => ktr_room); (case z37ku => ktr_units); intro _ _ _ _ _ _ _ _ _ _; (try dsimp only); (try k_fold)))
  k_with "call ref" => (k_here; k_dflt (refine' Con.use ?z38kC ?z38k1 ?z38k2 ?z38k3 ?z38k4 ?z38k5 ?z38kK ?z38kd ?z38ku ?_; (case z38k2 => k_asm); (case z38k4 => k_asm); (case z38kC => first | (refine' con_split _ _ _ _ _ _ ?z38b1 ?z38b2 ?z38b3; (case z38b1 => k_mem); (case z38b2 => first | assumption | exact .cons _ _ .nil); (case z38b3 => first | omega | simp))); (case z38k1 => k_asm); (case z38k3 => k_asm); (case z38k5 => k_asm); (case z38kK => first | exact rfl | assumption); (case z38kd => ktr_room); (case z38ku => ktr_units); intro _ _ _ _ _ _ _ _ _; (try dsimp only); (try k_fold)))
  k_with "call ref" => (k_here; k_dflt (refine' Con.use ?z39kC ?z39k1 ?z39k2 ?z39k3 ?z39k4 ?z39k5 ?z39kK ?z39kd ?z39ku ?_; (case z39k2 => k_asm); (case z39k4 => k_asm); (case z39kC => first | (refine' con_order _ _ _ _ _ _ _ _ _ _ ?z39b1 ?z39b2 ?z39b3 ?z39b4 ?z39b5 ?z39b6; (case z39b1 => k_mem); (case z39b2 => assumption); (case z39b3 => omega); (case z39b4 => k_mem); (case z39b5 => assumption); (case z39b6 => omega))); (case z39k1 => k_asm); (case z39k3 => k_asm); (case z39k5 => k_asm); (case z39kK => first | exact rfl | assumption); (case z39kd => ktr_room); (case z39ku => ktr_units); intro _ _ _ _ _; (try dsimp only); (try k_fold)))
  k_with "call ref" => (k_here; k_dflt (refine' Con.use ?z40kC ?z40k1 ?z40k2 ?z40k3 ?z40k4 ?z40k5 ?z40kK ?z40kd ?z40ku ?_; (case z40k2 => k_asm); (case z40k4 => k_asm); (case z40kC => first | exact con_rank _ _ _ _); (case z40k1 => k_asm); (case z40k3 => k_asm); (case z40k5 => k_asm); (case z40kK => first | exact rfl | assumption); (case z40kd => ktr_room); (case z40ku => ktr_units); intro _ _ _ _ _; (try dsimp only); (try k_fold)))
  k_with "compareOp Gt ref ref" => (k_here; k_dflt (refine gt_ints (by is_list) (by is_list) (by l_ints) (by l_ints) (by ke_room) ?_))
  k_with "compareOp Lt ref ref" => (k_here; k_dflt (refine lt_ints (by is_list) (by is_list) (by l_ints) (by l_ints) (by ke_room) ?_))
  k_with_none
  k_with "call ref" => (k_here; k_dflt (refine' Con.use ?z37kC ?z37k1 ?z37k2 ?z37k3 ?z37k4 ?z37k5 ?z37kK ?z37kd ?z37ku ?_; (case z37k2 => k_asm); (case z37k4 => k_asm); (case z37kC => first | (refine' con_draw _ _ _ _ _ _ _ _ _ _ _ _ _ ?z37b1 ?z37b2 ?z37b3 ?z37b4 ?z37b5 ?z37b6 ?z37b7; (case z37b1 => k_updF); (case z37b2 => k_mem); (case z37b3 => assumption); (case z37b4 => assumption); (case z37b5 => assumption); (case z37b6 => omega); (case z37b7 => omega))); (case z37k1 => k_asm); (case z37k3 => k_asm); (case z37k5 => k_asm); (case z37kK => first | exact rfl | assumption); (case z37kd => ktr_room); (case z37ku => ktr_units); intro _ _ _ _ _ _ _ _ _ _; (try dsimp only); (try k_fold)))
  k_with "call ref" => (k_here; k_dflt (refine' Con.use ?z38kC ?z38k1 ?z38k2 ?z38k3 ?z38k4 ?z38k5 ?z38kK ?z38kd ?z38ku ?_; (case z38k2 => k_asm); (case z38k4 => k_asm); (case z38kC => first | (refine' con_split _ _ _ _ _ _ ?z38b1 ?z38b2 ?z38b3; (case z38b1 => k_mem); (case z38b2 => first | assumption | exact .cons _ _ .nil); (case z38b3 => first | omega | simp))); (case z38k1 => k_asm); (case z38k3 => k_asm); (case z38k5 => k_asm); (case z38kK => first | exact rfl | assumption); (case z38kd => ktr_room); (case z38ku => ktr_units); intro _ _ _ _ _ _ _ _ _; (try dsimp only); (try k_fold)))
  k_with "call ref" => (k_here; k_dflt (refine' Con.use ?z39kC ?z39k1 ?z39k2 ?z39k3 ?z39k4 ?z39k5 ?z39kK ?z39kd ?z39ku ?_; (case z39k2 => k_asm); (case z39k4 => k_asm); (case z39kC => first | (refine' con_order _ _ _ _ _ _ _ _ _ _ ?z39b1 ?z39b2 ?z39b3 ?z39b4 ?z39b5 ?z39b6; (case z39b1 => k_mem); (case z39b2 => assumption); (case z39b3 => omega); (case z39b4 => k_mem); (case z39b5 => assumption); (case z39b6 => omega))); (case z39k1 => k_asm); (case z39k3 => k_asm); (case z39k5 => k_asm); (case z39kK => first | exact rfl | assumption); (case z39kd => ktr_room); (case z39ku => ktr_units); intro _ _ _ _ _; (try dsimp only); (try k_fold)))
  k_with "call ref" => (k_here; k_dflt (refine' Con.use ?z40kC ?z40k1 ?z40k2 ?z40k3 ?z40k4 ?z40k5 ?z40kK ?z40kd ?z40ku ?_; (case z40k2 => k_asm); (case z40k4 => k_asm); (case z40kC => first | exact con_rank _ _ _ _); (case z40k1 => k_asm); (case z40k3 => k_asm); (case z40k5 => k_asm); (case z40kK => first | exact rfl | assumption); (case z40kd => ktr_room); (case z40ku => ktr_units); intro _ _ _ _ _; (try dsimp only); (try k_fold)))
  k_with "compareOp Gt ref ref" => (k_here; k_dflt (refine gt_ints (by is_list) (by is_list) (by l_ints) (by l_ints) (by ke_room) ?_))
  k_with "compareOp Lt ref ref" => (k_here; k_dflt (refine lt_ints (by is_list) (by is_list) (by l_ints) (by l_ints) (by ke_room) ?_))
  refine' Con.enterC [(Str.ofString "tape", .ref TP)] 199 1997 ?k6 ?k7 ?kd ?ku ?k9 ?kB ?kD ?_ ?c2 ?c3 ?c4
  case k6 => k_is
  case k7 => k_is
  case kd => decide
  case ku => decide
  case k9 => intro s9 X9; first | exact BindsTo.of_eq rfl | exact binds_K (by k_in) rfl (by k_is) rfl rfl rfl
  case kB => exact rfl
  case kD => decide +kernel
  case c2 => exact rfl
  case c3 => exact rfl
  case c4 => exact rfl
  intro loose mean mg mb dp un gd outer A₀ base g' h' L' q0 gg dd oo tk0 cells' k0 B' X' T' hdp hun F' N' Y' l1 hret lv
  refine nameAE ?_
  intro Av Ev
  obtain ⟨oc1, hE, dc1⟩ := CellsAre.one Y'
  subst hE
  clear Y'
  replace dc1 : oc1.data = .cell (some (.ref TP)) := dc1.trans (by rfl)
  simp only [List.cons_append, List.nil_append] at N'
  replace F' : Fr g' L' h' (fun _ => none) := F'
  try generalize s.toks + List.length _ = tk0
  (try dsimp only)
  (try k_fold)
  have hne : TL ≠ TP := hT _ hTL
  have hTPl : @LT.lt Nat instLTNat TP L' := l1 _ (.head _)
  have hPl : ∀ p ∈ news, p.1 < L' := fun p hp => l1 p (.tail _ hp)
  k_with "eval ListComp" => (k_dflt (refine ListComp_J (by k_asm) (by with_unfolding_all rfl) (by decide) (by rfl) (by decide) ?_))
  k_steps
  k_dflt (refine comp_range (by rfl) (by k_asm) (by k_asm) (by assumption) (by decide) (n := 2) (by decide) (by rw [sizeLine_eq]; decide) (by rfl) (by rfl) (JOa L' oc1 TP TL news) ⟨[], pos, t, n, rfl, hp, (fun _ h => nomatch h), rfl, (fun _ h => nomatch h)⟩ ?turn ?fin)
  case turn =>
    intro g9 i ys n₁ own C D oC m₂ h9 tk9 E9 hi9 hz hJ hoff hw hown hoC F9 N9
    obtain ⟨own1, p', t', n', rfl, hp', hT1, hyl, hys⟩ := hJ
    have hTw := off_not hoff (.tail _ (.head _))
    have hDT := off_ne hoff (b := D) (.tail _ (.head _)) (.head _)
    have hCT := off_ne hoff (b := C) (.tail _ (.head _)) (.tail _ (.head _))
    have hTo := own_ne hown (fun h => hTw (.tail _ (.tail _ h)))
    have hTr := all_app (all_app hT1 hT) hTo
    have hTLr : (TL, listOf vs.toArray k) ∈ (own1 ++ news) ++ own := List.mem_append_left _ (List.mem_append_right _ hTL)
    simp only [List.cons_append] at N9
    obtain ⟨rest, hrest⟩ : ∃ r, r = (own1 ++ news) ++ own := ⟨_, rfl⟩
    rw [← hrest] at N9 hTr hTLr
    refine tests_ce ?_
    intro qc hqc
    (try dsimp only)
    k_steps
    k_dflt (refine comp_range (by rfl) (by k_asm) (by k_asm) (by assumption) (small_one (by omega) (by omega) (by omega) (by omega)) (rangeSize_nat _ _) (by rw [sizeLine_eq]; omega) (by rfl) (by rfl) (fun i2 zs n₂ => ∃ p' t' n' us, n₂ = (D, lst ys) :: (C, oC) :: (L' + 1, oc1) :: (TP, listOf [Value.ref TL, .int p' t'].toArray n') :: rest ∧ 0 ≤ p' ∧ IntsAre zs us ∧ us.length = i2 ∧ ∀ c ∈ us, c ∈ scal8) ⟨_, _, _, [], rfl, by omega, .nil, rfl, (fun _ h => nomatch h)⟩ ?turn2 ?fin2)
    case turn2 =>
      intro g8 i2 zs n₂ own2 C2 D2 oC2 m2 h8 tk8 E8 hi8 hz2 hJ2 hoff2 hw2 hown2 hoC2 F8 N8
      obtain ⟨p2, t2, n2, us, rfl, hp2, hzs, hul, hus⟩ := hJ2
      have hTw2 := off_not hoff2 (.tail _ (.tail _ (.tail _ (.head _))))
      have hDT2 := off_ne hoff2 (b := D2) (.tail _ (.tail _ (.tail _ (.head _)))) (.head _)
      have hCT2 := off_ne hoff2 (b := C2) (.tail _ (.tail _ (.tail _ (.head _)))) (.tail _ (.head _))
      have hTr2 := all_app hTr (own_ne hown2 (fun h => hTw2 (.tail _ (.tail _ h))))
      have hTLr2 : (TL, listOf vs.toArray k) ∈ rest ++ own2 := List.mem_append_left _ hTLr
      simp only [List.cons_append] at N8
      obtain ⟨rest2, hrest2⟩ : ∃ r, r = rest ++ own2 := ⟨_, rfl⟩
      rw [← hrest2] at N8 hTr2 hTLr2
      refine tests_ce ?_
      intro qc hqc
      (try dsimp only)
      k_steps
      subst hrest2
      refine CE.go hqc (n' := (D, lst ys) :: (C, oC) :: (L' + 1, oc1) :: (TP, _) :: rest) (by k_asm) (ce_back (by k_asm)) (off_same hoff2 (by rfl)) ⟨_, _, _, _, rfl, (by omega), ints_snoc hzs _ _, (by rw [List.length_append, hul]; rfl), snoc_mem hus (scal8_in _ (by assumption) (by assumption))⟩
    case fin2 =>
      rintro g8 tk8 zs n₂ ⟨p2, t2, n2, us, rfl, hp2, hzs, hul, hus⟩ D2 h8 tk8 F8 N8 hD2
      subst hrest
      have h2w := off_cons_new hw sub_o2 hD2
      refine CE.go hqc (n' := (L' + 1, oc1) :: (TP, _) :: (((D2, lst zs) :: own1) ++ news)) (by k_asm) (news_sub N8 sub_o1) ?off ⟨(D2, lst zs) :: own1, _, _, _, rfl, hp2, all_cons (Ne.symm (hD2 _ (.tail _ (.tail _ (.tail _ (.head _)))))) hT1, (by rw [List.length_append, hyl]; rfl), fun v hv => ?_⟩
      case off =>
        exact Off.cons (hoff _ (.head _)) (Off.cons hTw (Off.cons h2w (hoff.tail.tail)))
      rcases List.mem_append.mp hv with hv | hv
      · exact (hys v hv).sub fun p hp => .tail _ hp
      · rw [List.mem_singleton.mp hv]
        exact ⟨D2, zs, _, us, rfl, .head _, hzs, by omega, hus⟩
  case fin =>
    rintro g9 tk9 ys n₁ ⟨own1, p', t', n', rfl, hp', hT1, hyl, hys⟩ D h9 tk9 F9 N9 hD
    (try dsimp only)
    obtain ⟨x, y, rfl⟩ := two_of hyl
    obtain ⟨U1, v1, n1, us1, rfl, hm1, hi1, hl1, hs1⟩ := hys x (.head _)
    obtain ⟨U2, v2, n2, us2, rfl, hm2, hi2, hl2, hs2⟩ := hys y (.tail _ (.head _))
    have hm1 := List.mem_append_left news hm1
    have hm2 := List.mem_append_left news hm2
    have hTr := all_app hT1 hT
    have hsub : ∀ p ∈ news, p ∈ own1 ++ news := fun p hp => List.mem_append_right _ hp
    have hlv1 := IntsAre.length hi1
    have hlv2 := IntsAre.length hi2
    generalize own1 ++ news = rest at N9 hm1 hm2 hTr hsub hD
    clear hys hT1
    have hord := order_law hs1 hs2
    k_with "exec For Name Name cons nil" => (k_dflt (refine WStop.go ?_))
    k_steps
    · exact absurd hord ‹_›
    unfold WStop
    k_with_none
    k_with "call ref" => (k_here; k_dflt (refine' Con.use ?z37kC ?z37k1 ?z37k2 ?z37k3 ?z37k4 ?z37k5 ?z37kK ?z37kd ?z37ku ?_; (case z37k2 => k_asm); (case z37k4 => k_asm); (case z37kC => first | (refine' con_draw _ _ _ _ _ _ _ _ _ _ _ _ _ ?z37b1 ?z37b2 ?z37b3 ?z37b4 ?z37b5 ?z37b6 ?z37b7; (case z37b1 => k_updF); (case z37b2 => k_mem); (case z37b3 => assumption); (case z37b4 => assumption); (case z37b5 => assumption); (case z37b6 => omega); (case z37b7 => omega))); (case z37k1 => k_asm); (case z37k3 => k_asm); (case z37k5 => k_asm); (case z37kK => first | exact rfl | assumption); (case z37kd => ktr_room); (case z37ku => ktr_units); intro _ _ _ _ _ _ _ _ _ _; (try dsimp only); (try k_fold)))
    k_with "call ref" => (k_here; k_dflt (refine' Con.use ?z38kC ?z38k1 ?z38k2 ?z38k3 ?z38k4 ?z38k5 ?z38kK ?z38kd ?z38ku ?_; (case z38k2 => k_asm); (case z38k4 => k_asm); (case z38kC => first | (refine' con_split _ _ _ _ _ _ ?z38b1 ?z38b2 ?z38b3; (case z38b1 => k_mem); (case z38b2 => first | assumption | exact .cons _ _ .nil); (case z38b3 => first | omega | simp))); (case z38k1 => k_asm); (case z38k3 => k_asm); (case z38k5 => k_asm); (case z38kK => first | exact rfl | assumption); (case z38kd => ktr_room); (case z38ku => ktr_units); intro _ _ _ _ _ _ _ _ _; (try dsimp only); (try k_fold)))
    k_with "call ref" => (k_here; k_dflt (refine' Con.use ?z39kC ?z39k1 ?z39k2 ?z39k3 ?z39k4 ?z39k5 ?z39kK ?z39kd ?z39ku ?_; (case z39k2 => k_asm); (case z39k4 => k_asm); (case z39kC => first | (refine' con_order _ _ _ _ _ _ _ _ _ _ ?z39b1 ?z39b2 ?z39b3 ?z39b4 ?z39b5 ?z39b6; (case z39b1 => k_mem); (case z39b2 => assumption); (case z39b3 => omega); (case z39b4 => k_mem); (case z39b5 => assumption); (case z39b6 => omega))); (case z39k1 => k_asm); (case z39k3 => k_asm); (case z39k5 => k_asm); (case z39kK => first | exact rfl | assumption); (case z39kd => ktr_room); (case z39ku => ktr_units); intro _ _ _ _ _; (try dsimp only); (try k_fold)))
    k_with "call ref" => (k_here; k_dflt (refine' Con.use ?z40kC ?z40k1 ?z40k2 ?z40k3 ?z40k4 ?z40k5 ?z40kK ?z40kd ?z40ku ?_; (case z40k2 => k_asm); (case z40k4 => k_asm); (case z40kC => first | exact con_rank _ _ _ _); (case z40k1 => k_asm); (case z40k3 => k_asm); (case z40k5 => k_asm); (case z40kK => first | exact rfl | assumption); (case z40kd => ktr_room); (case z40ku => ktr_units); intro _ _ _ _ _; (try dsimp only); (try k_fold)))
    k_with "compareOp Gt ref ref" => (k_here; k_dflt (refine gt_ints (by is_list) (by is_list) (by l_ints) (by l_ints) (by ke_room) ?_))
    k_with "compareOp Lt ref ref" => (k_here; k_dflt (refine lt_ints (by is_list) (by is_list) (by l_ints) (by l_ints) (by ke_room) ?_))
    k_with "exec For Name Name cons nil" => (k_dflt ((rename Fr _ _ _ _ => lF9); (with_unfolding_all refine' For_turns lF9 ?_; k_whole)))
    k_steps
    rename News _ _ _ ((_, ⟨Value.type "tuple", _, _, _⟩) :: _) => N7
    k_dflt (refine for_list (by rfl) (by k_asm) (news_sub (b := (TP, _) :: rest) N7 (fun p hp => .tail _ (.tail _ (.tail _ (.tail _ (.tail _ hp)))))) (.tail _ hm1) (fun i m₁ n₁ => n₁ = (TP, listOf [Value.ref TL, .int p' t'].toArray n') :: rest ∧ Kp [Str.ofString "near", Str.ofString "far", Str.ofString "code", Str.ofString "mate"] (fun y => if y = Str.ofString "other" then some (.ref U2) else if y = Str.ofString "one" then some (.ref U1) else none) m₁) ⟨rfl, (by first | walk_at "kp" | (intro y hy; simp only [List.mem_cons, not_or, List.not_mem_nil, not_false_eq_true, and_true] at hy; simp only [setN, setO, hy, if_false]))⟩ ?turn3 ?fin3)
    case turn3 =>
      intro i v m₁ n₁ own h9 tk9 hv hJ hoff hw hown F9 N9
      obtain ⟨rfl, hkp⟩ := hJ
      obtain ⟨c1, c2, c3, c4, rfl⟩ := hkp.shape4
      obtain ⟨hlt, tv, rfl⟩ := ints_item hi1 hv
      have hcs := scal8_scal _ (hs1 _ (getD_mem hlt))
      have hm1' := List.mem_append_left own hm1
      have hm2' := List.mem_append_left own hm2
      rw [List.cons_append] at N9
      generalize hrest : rest ++ own = rest2 at N9 hm1' hm2'
      k_steps
      k_dflt (refine for_list (by rfl) (by k_asm) (by k_asm) (.tail _ hm2') (fun i2 m₂ n₂ => n₂ = (TP, listOf [Value.ref TL, .int p' t'].toArray n') :: rest2 ∧ Kp [Str.ofString "near", Str.ofString "far", Str.ofString "mate"] (fun y => if y = Str.ofString "code" then some (.int (us1.getD i 0) tv) else if y = Str.ofString "other" then some (.ref U2) else if y = Str.ofString "one" then some (.ref U1) else none) m₂) ⟨rfl, (by first | walk_at "kp" | (intro y hy; simp only [List.mem_cons, not_or, List.not_mem_nil, not_false_eq_true, and_true] at hy; by_cases hq0 : y = Str.ofString "code"; (· subst hq0; rfl); simp only [setN, setO, hy, hq0, if_false]))⟩ ?turn4 ?fin4)
      case turn4 =>
        intro i2 v2 m₂ n₂ own2 h8 tk8 hv2 hJ2 hoff2 hw2 hown2 F8 N8
        obtain ⟨rfl, hkp2⟩ := hJ2
        obtain ⟨e1, e2, e3, rfl⟩ := hkp2.shape3
        obtain ⟨hlt2, tv2, rfl⟩ := ints_item hi2 hv2
        have hds := scal8_scal _ (hs2 _ (getD_mem hlt2))
        have hone := order_one (hs1 _ (getD_mem hlt)) (hs2 _ (getD_mem hlt2))
        rw [List.cons_append] at N8
        generalize hrest2 : rest2 ++ own2 = rest3 at N8
        k_steps
        · rename (_ != _) = true => hq
          rw [hone, bne_self_eq_false] at hq
          exact absurd hq (by decide)
        · subst hrest2
          exact TurnEnd.intro (n' := (TP, _) :: rest2) (by k_asm) (news_sub (by k_asm) (fun p hp => .tail _ (.tail _ (.tail _ (.tail _ hp))))) hoff2 ⟨rfl, (by first | walk_at "kp" | (intro y hy; simp only [List.mem_cons, not_or, List.not_mem_nil, not_false_eq_true, and_true] at hy; simp only [setN, setO, hy, if_false]))⟩
      case fin4 =>
        rintro m₂ n₂ h8 tk8 ⟨rfl, hkp2⟩ F8 N8
        obtain ⟨e1, e2, e3, rfl⟩ := hkp2.shape3
        k_steps
        subst hrest
        exact TurnEnd.intro (n' := (TP, _) :: rest) (by k_asm) (by k_asm) hoff ⟨rfl, (by first | walk_at "kp" | (intro y hy; simp only [List.mem_cons, not_or, List.not_mem_nil, not_false_eq_true, and_true] at hy; simp only [setN, setO, hy, if_false]))⟩
    case fin3 =>
      rintro m₁ n₁ h9 tk9 ⟨rfl, hkp⟩ F9 N9
      obtain ⟨c1, c2, c3, c4, rfl⟩ := hkp.shape4
      k_steps
      rw [show (orderI us1 us1 == 0) = true by rw [order_self]; rfl]
      exact lv.go (hret p' _ _ hp') (by k_asm) (news_sub (by k_asm) (sub_tp hsub))
-- PAC
example : True := by w_top off; k_with_none; trivial
namespace Nac
theorem KTurns.more {prog : Program} {w : World} {A : Around} {target : Expr} {I : Addr} {fp wr : List Addr} {n : Nat} {P Md : Nat → Value → Heap → Prop} {St : Nat → Heap → Prop} (W : KTurns prog w A target I fp wr n P Md St) (ad : Led) (ho : ∀ p ∈ ad, p.1 ∉ wr) :
    KTurns prog w A target I (fp ++ ad.map (·.1)) wr n (fun i v h => P i v h ∧ ∀ p ∈ ad, h.get? p.1 = some p.2) (fun i v h => Md i v h ∧ ∀ p ∈ ad, h.get? p.1 = some p.2) (fun i h => St i h ∧ ∀ p ∈ ad, h.get? p.1 = some p.2) where
  sub := fun b hb => List.mem_append_left _ (W.sub b hb)
  frame := fun i h h' st hk => ⟨W.frame i h h' st.1 fun b hb => hk b (List.mem_append_left _ hb), fun p hp => hk p.1 (List.mem_append_right _ (List.mem_map_of_mem hp)) _ (st.2 p hp)⟩
  item := fun i s Q E hi st hQ => W.item i s Q E hi st.1 fun v h' tk hm hk => hQ v h' tk ⟨hm, fun p hp => hk _ _ (ho p hp) (st.2 p hp)⟩ hk
  go := fun i v s Q E hm hQ => W.go i v s Q E hm.1 fun h' hp st hk => hQ h' ⟨hp, fun p hp' => hk _ _ (ho p hp') (hm.2 p hp')⟩ ⟨st, fun p hp' => hk _ _ (ho p hp') (hm.2 p hp')⟩ hk
  done := fun s Q E st hQ => W.done s Q E st.1 hQ
noncomputable def RowZ (i : Nat) (x y : Value) : Prop := ∃ b t u, x = .bytes b t ∧ y = .str (Str.ofString (rowsM.getD i ([], "")).2) u ∧ KBw.bInts b = (rowsM.getD i ([], "")).1 ∧ i < rowsM.length
theorem rows_z {led : Led} {vs : List Value} (h : RowsAre led vs rowsM) {q : Addr × Obj} (i : Nat) (v : Value) (e : vs[i]? = some v) : ∃ T x y, v = .ref T ∧ (T, tupO [x, y]) ∈ q :: led ∧ RowZ i x y := by
  obtain ⟨a, b, t, u, h1, h2, h3, h4⟩ := row_item h e
  exact ⟨a, _, _, h2, .tail _ h3, b, t, u, rfl, rfl, h4, h1⟩
theorem rows_snoc : ∀ i, i < rowsM.length → rowsM.take (i + 1) = rowsM.take i ++ [rowsM.getD i ([], "")] := by decide
section
variable {prog : Program} {w : World} {A : Around} {E : Value → Shared → Prop} {s : Shared} {env : Env} {h₀ : Heap} {L : Addr} {m : Str → Option Value} {elt : Expr} {ifs : List Expr} {scope : Scope} {cl : List (Str × Addr)} {Fin : Shared → List Value → Led → Prop} {news : Led}
theorem comp_rows {xa xb : Str} {pa pb tp : Pos} {kk : Nat} {l : Addr} {vs : List Value} {k : Nat} (hh : A.handled = none) (F : Fr h₀ L s.heap m) (N : News h₀ L s.heap news) (hm : (l, listOf vs.toArray k) ∈ news) (hsz : vs.length ≤ sizeLine) (hkind : scope.kind = .function) (ha : scope.names.lookup xa = some .local) (hb : scope.names.lookup xb = some .local) (hab : xa ≠ xb)
    {Z : Nat → Value → Value → Prop} (hp2 : ∀ (i : Nat) v, vs[i]? = some v → ∃ T x y, v = .ref T ∧ (T, tupO [x, y]) ∈ news ∧ Z i x y)
    (J : Nat → List Value → Led → Prop) (h0 : J 0 [] news)
    (turn : ∀ g, CTurn prog w A h₀ L m env elt ifs scope cl { s with heap := g } ([s.heap.objs.size, l] ++ news.map (·.1)) [s.heap.objs.size] (fun i m₂ => ∃ x y, Z i x y ∧ m₂ xa = some x ∧ m₂ xb = some y) J vs.length)
    (fin : ∀ g tk, ∀ ys n₁, J vs.length ys n₁ → Fin { s with heap := g, toks := tk } ys n₁) :
    wpAny (model prog w) A (pyIter (.ref l)) (fun it s₂ => CompAt prog w A h₀ L m env elt (.Tuple [.Name xa pa, .Name xb pb] kk tp) ifs scope cl Fin it s₂) E s := by
  have hax := N _ hm
  have hl : s.heap.IsList l vs.toArray := ⟨_, hax.1, rfl, _, rfl⟩
  have hlt := Heap.lt_size hax.1
  have hne : l ≠ s.heap.objs.size := Nat.ne_of_lt hlt
  have hI : ∀ p ∈ news, p.1 ∉ [s.heap.objs.size] := fun p hp h => absurd (Heap.lt_size (N p hp).1) ((List.mem_singleton.mp h) ▸ Nat.lt_irrefl _)
  refine wpAny_pyIter_list hl ?_
  have W := Walks.list (prog := prog) (w := w) hh s.heap.objs.size l hne vs.toArray
  refine ⟨_, _, _, _, _, _, _, _, news, J, rfl, KTurns.more (KTurns.ofWalks W fun i v s Q E st q => letGo_listiter st.1 q) news hI, fun i h st b hb => ?_, by simpa using hsz, asn_pair hh hkind ha hb hab (Z := Z) (fun i v h hp => ?_), fun i s Q E st => W.self i s Q E st.1, ⟨⟨⟨_, Heap.get?_push_size _ rfl, rfl, rfl⟩, hl.push _⟩, fun p hp => Heap.get?_push_of_some _ (N p hp).1⟩, fun b hb => ?_, fun b hb => ?_, ?_, fun p hp => hI p hp, F.push _, (fun p hp => ⟨Heap.get?_push_of_some _ (N p hp).1, (N p hp).2⟩), h0, ?_, fun s₃ e ys n₁ hj => ?_⟩
  · rw [List.mem_singleton.mp hb]
    obtain ⟨it, hit, _⟩ := st.1.1
    exact ⟨it, hit⟩
  · have hp1 := hp.1
    have e : vs[i]? = some v := by simpa using hp1
    obtain ⟨T, x, y, rfl, hT, hz⟩ := hp2 i v e
    exact ⟨T, x, y, rfl, ⟨_, hp.2 _ hT, rfl, _, rfl⟩, hz⟩
  · show b < (s.heap.push _).objs.size
    rw [Heap.size_push]
    rcases List.mem_append.mp hb with hb | hb
    · rcases List.mem_cons.mp hb with rfl | hb
      · exact Nat.lt_succ_self _
      · rw [List.mem_singleton.mp hb]; exact Nat.lt_succ_of_lt hlt
    · obtain ⟨p, hp, rfl⟩ := List.mem_map.mp hb
      exact Nat.lt_succ_of_lt (Heap.lt_size (N p hp).1)
  · rw [List.mem_singleton.mp hb]; exact next_is_new F
  · intro hI'
    rcases List.mem_append.mp hI' with hI' | hI'
    · rcases List.mem_cons.mp hI' with e | hI'
      · exact absurd F.ns.lt (e ▸ Nat.lt_irrefl _)
      · exact hax.2.1 (List.mem_singleton.mp hI').symm
    · obtain ⟨p, hp, e⟩ := List.mem_map.mp hI'
      exact (N p hp).2.1 e
  · have := turn (s.heap.push { cls := .type "list_iterator", data := .fields #[.ref l, .int 0 0] })
    simpa using this
  · obtain ⟨h, tk, rfl⟩ := e
    exact fin h tk ys n₁ (by simpa using hj)
end
theorem con_unmarked_none (w : World) (news : Led) (b : Array UInt8) (t : Tok) (ks : List Int) (hb : KBw.bInts b = ks) (hlen : ks.length ≤ 100) (hf : rowsM.find? (pre9 ks) = none) :
    Con w 195 [.bytes b t] 60 600 news (fun k => ∀ tp t', (∀ p ∈ news, p.1 < tp) → k (.ref tp) ((tp, tupO [.none, .bytes b t']) :: news)) :=
  Con.conv (con_unmarked w news b t ks hb hlen) (fun _ h => h) fun k _ h => ⟨fun r t b' t' tp e => (by rw [hf] at e; cases e), fun _ => h⟩
theorem con_unmarked_some (w : World) (news : Led) (b : Array UInt8) (t : Tok) (ks : List Int) (r : List Int × String) (hb : KBw.bInts b = ks) (hlen : ks.length ≤ 100) (hf : rowsM.find? (pre9 ks) = some r) :
    Con w 195 [.bytes b t] 60 600 news (fun k => ∀ t b' t' tp, KBw.bInts b' = (if Str.ofString r.2 == Str.ofString "utf-7" then ks else ks.drop r.1.length) → (∀ p ∈ news, p.1 < tp) → k (.ref tp) ((tp, tupO [.str (Str.ofString r.2) t, .bytes b' t']) :: news)) :=
  Con.conv (con_unmarked w news b t ks hb hlen) (fun _ h => h) fun k _ h => ⟨fun r2 t b' t' tp e => (by rw [hf] at e; obtain rfl := Option.some.inj e; exact h t b' t' tp), fun e => (by rw [hf] at e; cases e)⟩
theorem con_sniffed_none (w : World) (news : Led) (b : Array UInt8) (t : Tok) (ks : List Int) (hb : KBw.bInts b = ks) (hlen : ks.length ≤ 100) (hf : rowsM.find? (pre9 ks) = none) :
    Con w 188 [.bytes b t] 60 600 news (fun k => k .none news) :=
  Con.conv (con_sniffed w news b t ks hb hlen) (fun _ h => h) fun k _ h => ⟨fun r t e => (by rw [hf] at e; cases e), fun _ => h⟩
theorem con_sniffed_some (w : World) (news : Led) (b : Array UInt8) (t : Tok) (ks : List Int) (r : List Int × String) (hb : KBw.bInts b = ks) (hlen : ks.length ≤ 100) (hf : rowsM.find? (pre9 ks) = some r) :
    Con w 188 [.bytes b t] 60 600 news (fun k => ∀ t, k (.str (Str.ofString r.2) t) news) :=
  Con.conv (con_sniffed w news b t ks hb hlen) (fun _ h => h) fun k _ h => ⟨fun r2 t e => (by rw [hf] at e; obtain rfl := Option.some.inj e; exact h t), fun e => (by rw [hf] at e; cases e)⟩
noncomputable def marksV : List Value := [.ref 205, .ref 206, .ref 207, .ref 208, .ref 209, .ref 210, .ref 211, .ref 212, .ref 213, .ref 214, .ref 215, .ref 216, .ref 217]
theorem marks_tup {w : World} {h : Heap} (X : (hdT.heap_1 w.params).In h) : IsTup h 218 marksV.toArray := ⟨_, X 218 _ (by k_is), rfl, _, rfl⟩
theorem marks_row {w : World} {h : Heap} (X : (hdT.heap_1 w.params).In h) : ∀ (i : Nat) (v : Value), marksV[i]? = some v → RowH h v (rowsM.getD i ([], ""))
  | 0, v, h => by obtain rfl := Option.some.inj h; exact ⟨205, _, _, _, rfl, ⟨_, X 205 _ (by k_is), rfl, _, rfl⟩, by rfl⟩
  | 1, v, h => by obtain rfl := Option.some.inj h; exact ⟨206, _, _, _, rfl, ⟨_, X 206 _ (by k_is), rfl, _, rfl⟩, by rfl⟩
  | 2, v, h => by obtain rfl := Option.some.inj h; exact ⟨207, _, _, _, rfl, ⟨_, X 207 _ (by k_is), rfl, _, rfl⟩, by rfl⟩
  | 3, v, h => by obtain rfl := Option.some.inj h; exact ⟨208, _, _, _, rfl, ⟨_, X 208 _ (by k_is), rfl, _, rfl⟩, by rfl⟩
  | 4, v, h => by obtain rfl := Option.some.inj h; exact ⟨209, _, _, _, rfl, ⟨_, X 209 _ (by k_is), rfl, _, rfl⟩, by rfl⟩
  | 5, v, h => by obtain rfl := Option.some.inj h; exact ⟨210, _, _, _, rfl, ⟨_, X 210 _ (by k_is), rfl, _, rfl⟩, by rfl⟩
  | 6, v, h => by obtain rfl := Option.some.inj h; exact ⟨211, _, _, _, rfl, ⟨_, X 211 _ (by k_is), rfl, _, rfl⟩, by rfl⟩
  | 7, v, h => by obtain rfl := Option.some.inj h; exact ⟨212, _, _, _, rfl, ⟨_, X 212 _ (by k_is), rfl, _, rfl⟩, by rfl⟩
  | 8, v, h => by obtain rfl := Option.some.inj h; exact ⟨213, _, _, _, rfl, ⟨_, X 213 _ (by k_is), rfl, _, rfl⟩, by rfl⟩
  | 9, v, h => by obtain rfl := Option.some.inj h; exact ⟨214, _, _, _, rfl, ⟨_, X 214 _ (by k_is), rfl, _, rfl⟩, by rfl⟩
  | 10, v, h => by obtain rfl := Option.some.inj h; exact ⟨215, _, _, _, rfl, ⟨_, X 215 _ (by k_is), rfl, _, rfl⟩, by rfl⟩
  | 11, v, h => by obtain rfl := Option.some.inj h; exact ⟨216, _, _, _, rfl, ⟨_, X 216 _ (by k_is), rfl, _, rfl⟩, by rfl⟩
  | 12, v, h => by obtain rfl := Option.some.inj h; exact ⟨217, _, _, _, rfl, ⟨_, X 217 _ (by k_is), rfl, _, rfl⟩, by rfl⟩
  | _ + 13, _, h => nomatch h
theorem Fr.ne_K {h₀ h : Heap} {L a : Addr} {m : Str → Option Value} {K : Frag} {o : Obj} (F : Fr h₀ L h m) (X : K.In h₀) (e : K.lookup a = some o) : a ≠ L := fun q => by
  have h1 := X _ _ e
  have h2 := kts_self F
  rw [← q, h1] at h2
  cases h2
theorem marks_look {w : World} : ∀ (i : Nat) (v : Value), marksV[i]? = some v → ∃ a b t u n, v = .ref a ∧ (hdT.heap_1 w.params).lookup a = some ⟨.type "tuple", none, .seq [.bytes b t, .str (Str.ofString (rowsM.getD i ([], "")).2) u].toArray n, #[]⟩ ∧ KBw.bInts b = (rowsM.getD i ([], "")).1 ∧ i < 13
  | 0, v, h => by obtain rfl := Option.some.inj h; exact ⟨205, _, _, _, _, rfl, by k_is, by rfl, by decide⟩
  | 1, v, h => by obtain rfl := Option.some.inj h; exact ⟨206, _, _, _, _, rfl, by k_is, by rfl, by decide⟩
  | 2, v, h => by obtain rfl := Option.some.inj h; exact ⟨207, _, _, _, _, rfl, by k_is, by rfl, by decide⟩
  | 3, v, h => by obtain rfl := Option.some.inj h; exact ⟨208, _, _, _, _, rfl, by k_is, by rfl, by decide⟩
  | 4, v, h => by obtain rfl := Option.some.inj h; exact ⟨209, _, _, _, _, rfl, by k_is, by rfl, by decide⟩
  | 5, v, h => by obtain rfl := Option.some.inj h; exact ⟨210, _, _, _, _, rfl, by k_is, by rfl, by decide⟩
  | 6, v, h => by obtain rfl := Option.some.inj h; exact ⟨211, _, _, _, _, rfl, by k_is, by rfl, by decide⟩
  | 7, v, h => by obtain rfl := Option.some.inj h; exact ⟨212, _, _, _, _, rfl, by k_is, by rfl, by decide⟩
  | 8, v, h => by obtain rfl := Option.some.inj h; exact ⟨213, _, _, _, _, rfl, by k_is, by rfl, by decide⟩
  | 9, v, h => by obtain rfl := Option.some.inj h; exact ⟨214, _, _, _, _, rfl, by k_is, by rfl, by decide⟩
  | 10, v, h => by obtain rfl := Option.some.inj h; exact ⟨215, _, _, _, _, rfl, by k_is, by rfl, by decide⟩
  | 11, v, h => by obtain rfl := Option.some.inj h; exact ⟨216, _, _, _, _, rfl, by k_is, by rfl, by decide⟩
  | 12, v, h => by obtain rfl := Option.some.inj h; exact ⟨217, _, _, _, _, rfl, by k_is, by rfl, by decide⟩
  | _ + 13, _, h => nomatch h
theorem ne_nilK {prog : Program} {w : World} {A : Around} {E : Value → Shared → Prop} {s : Shared} {h₀ : Heap} {L l l' : Addr} {news : Led} {v : Value} {vs : List Value} {n n' : Nat} {Q : Value → Shared → Prop} (N : News h₀ L s.heap news) (h1 : (l, listOf (v :: vs).toArray n) ∈ news) (h2 : (l', listOf [].toArray n') ∈ news) (hu : A.units < cLine) (h : Q (.bool true) s) :
    wpAny (model prog w) A (compareOp .NotEq (.ref l) (.ref l')) Q E s :=
  SeqAt.RcNeAt.lists_lengths (N.isList h1) (N.isList h2) (by simp) hu prog w E Q h
theorem ne_nil0 {prog : Program} {w : World} {A : Around} {E : Value → Shared → Prop} {s : Shared} {h₀ : Heap} {L l l' : Addr} {news : Led} {n n' : Nat} {Q : Value → Shared → Prop} (N : News h₀ L s.heap news) (h1 : (l, listOf [].toArray n) ∈ news) (h2 : (l', listOf [].toArray n') ∈ news) (hu : A.units < cLine) (h : Q (.bool false) s) :
    wpAny (model prog w) A (compareOp .NotEq (.ref l) (.ref l')) Q E s :=
  SeqAt.RcNeAt.lists (e := fun _ => true) (N.isList h1) (N.isList h2) rfl hu (fun j h1 _ => absurd h1 (Nat.not_lt_zero _)) prog w E Q h
theorem item_K {prog : Program} {w : World} {A : Around} {E : Value → Shared → Prop} {s : Shared} {value slice : PySem.Expr} {h₀ : Heap} {L a : Addr} {m : Str → Option Value} {K : Frag} {l : List Value} {dd : Option Addr} {n : Nat} {sl : Array (Option Value)} {k : Int} {u : Tok} {v : Value} {Q : Value → Shared → Prop} (F : Fr h₀ L s.heap m) (X : K.In h₀)
    (hl : K.lookup a = some ⟨.type "tuple", dd, .seq l.toArray n, sl⟩) (h0 : 0 ≤ k) (h1 : k < l.length) (hfit : k < 2 ^ 63) (hx : l[k.toNat]? = some v) (h : Q v s)
    (hs : subscripted slice false (.ref a) (.int k u) = operate [.ref a, .int k u] (getItem (.ref a) (.int k u)) := by with_unfolding_all rfl) :
    wpAny (model prog w) A (subscriptTail value slice (.ref a) (.int k u)) Q E s :=
  item_tupleT (tupK (X.keeps F.keep) hl) (by omega) hfit (StrLaws.seqIndex_nonneg h0 h1) hx h hs
theorem item_marks {prog : Program} {w : World} {A : Around} {E : Value → Shared → Prop} {s : Shared} {value slice : PySem.Expr} {h₀ : Heap} {L : Addr} {m : Str → Option Value} {k : Int} {u : Tok} {Q : Value → Shared → Prop} (F : Fr h₀ L s.heap m) (X : (hdT.heap_1 w.params).In h₀)
    (h0 : 0 ≤ k) (h1 : k < 13) (h : ∀ a b t u n, (hdT.heap_1 w.params).lookup a = some ⟨.type "tuple", none, .seq [.bytes b t, .str (Str.ofString (rowsM.getD k.toNat ([], "")).2) u].toArray n, #[]⟩ → KBw.bInts b = (rowsM.getD k.toNat ([], "")).1 → (rowsM.getD k.toNat ([], "")).1.length ≤ 4 → Q (.ref a) s)
    (hs : subscripted slice false (.ref 218) (.int k u) = operate [.ref 218, .int k u] (getItem (.ref 218) (.int k u)) := by with_unfolding_all rfl) :
    wpAny (model prog w) A (subscriptTail value slice (.ref 218) (.int k u)) Q E s := by
  have hk : k.toNat < marksV.length := by show k.toNat < 13; omega
  obtain ⟨a, b, t, u', n, e, hl, hb, hi⟩ := marks_look (w := w) _ _ (List.getElem?_eq_getElem hk)
  exact item_tupleT (marks_tup (X.keeps F.keep)) (by omega) (by omega) (StrLaws.seqIndex_nonneg h0 (by show k < 13; omega)) (List.getElem?_eq_getElem hk) (e ▸ h a b t u' n hl hb (row_len _ hi)) hs
theorem marks_find : ∀ i, i < 13 → ((rowsM.find? fun r => Str.ofString r.2 == Str.ofString (rowsM.getD i ([], "")).2).map (·.1)).getD [] = if i < 10 then (rowsM.getD i ([], "")).1 else [43, 47, 118, 56] := by decide +kernel
theorem bytes_bne {b c : Array UInt8} {ks ls : List Int} (hb : KBw.bInts b = ks) (hc : KBw.bInts c = ls) : (b.toList != c.toList) = !decide (ks = ls) := by
  show (!(b.toList == c.toList)) = _
  rw [bytes_beq hb hc]
theorem cut_le {b : Array UInt8} {ks : List Int} {m : Nat} (h : KBw.bInts b = ks.take m) (hl : ks.length ≤ 4) : ∃ ls, KBw.bInts b = ls ∧ ls.length ≤ 4 := ⟨_, h, by rw [List.length_take]; omega⟩
theorem menu7 (v : Int) (h0 : 0 ≤ v) (h1 : v < 7) : 0 ≤ ([0, 254, 255, 56, 43, 65, 40] : List Int).getD v.toNat 0 ∧ ([0, 254, 255, 56, 43, 65, 40] : List Int).getD v.toNat 0 < 256 := by
  exact int_cases (P := fun v => 0 ≤ ([0, 254, 255, 56, 43, 65, 40] : List Int).getD v.toNat 0 ∧ ([0, 254, 255, 56, 43, 65, 40] : List Int).getD v.toNat 0 < 256) 7 (by decide) h0 h1
theorem snoc_all {us : List Int} {c : Int} {p : Int → Prop} (h : ∀ c ∈ us, p c) (hc : p c) : ∀ d ∈ us ++ [c], p d := fun d hd => by
  rcases List.mem_append.mp hd with hd | hd
  · exact h d hd
  · rw [List.mem_singleton.mp hd]; exact hc
inductive KRows (w : World) : List Value → List (List Int × String) → Prop
  | nil : KRows w [] []
  | cons {a : Addr} {b : Array UInt8} {t u : Tok} {n : Nat} {vs : List Value} {r : List Int × String} {rs : List (List Int × String)} : (hdT.heap_1 w.params).lookup a = some ⟨.type "tuple", none, .seq [.bytes b t, .str (Str.ofString r.2) u].toArray n, #[]⟩ → KBw.bInts b = r.1 → KRows w vs rs → KRows w (.ref a :: vs) (r :: rs)
theorem KRows.snoc {w : World} {a : Addr} {b : Array UInt8} {t u : Tok} {n : Nat} {vs : List Value} {r : List Int × String} {rs : List (List Int × String)} (h : KRows w vs rs) (hl : (hdT.heap_1 w.params).lookup a = some ⟨.type "tuple", none, .seq [.bytes b t, .str (Str.ofString r.2) u].toArray n, #[]⟩) (hb : KBw.bInts b = r.1) : KRows w (vs ++ [.ref a]) (rs ++ [r]) := by
  induction h with
  | nil => exact .cons hl hb .nil
  | cons h1 h2 _ ih => exact .cons h1 h2 ih
theorem filter_snoc (p : List Int × String → Bool) (i : Nat) (h : i < 13) : (rowsM.take (i + 1)).filter p = (rowsM.take i).filter p ++ if p (rowsM.getD i ([], "")) = true then [rowsM.getD i ([], "")] else [] := by
  rw [rows_snoc i h, List.filter_append]
  congr 1
  by_cases hp : p (rowsM.getD i ([], "")) = true
  · rw [if_pos hp, List.filter_cons_of_pos hp]; rfl
  · rw [if_neg hp, List.filter_cons_of_neg hp]; rfl
theorem eq_pairN {prog : Program} {w : World} {A : Around} {E : Value → Shared → Prop} {s : Shared} {h₀ : Heap} {L a a' : Addr} {news : Led} {b b' : Array UInt8} {t t' : Tok} {ks : List Int} {Q : Value → Shared → Prop} (N : News h₀ L s.heap news) (h1 : (a, tupO [.none, .bytes b t]) ∈ news) (h2 : (a', tupO [.none, .bytes b' t']) ∈ news)
    (hb : KBw.bInts b = ks) (hb' : KBw.bInts b' = ks) (hu0 : A.units < cLine) (h : Q (.bool true) s) : wpAny (model prog w) A (compareOp .Eq (.ref a) (.ref a')) Q E s :=
  eq_pair ⟨_, (N _ h1).1, rfl, _, rfl⟩ ⟨_, (N _ h2).1, rfl, _, rfl⟩ (SeqAt.EqAt.same _) hb hb' hu0 h
theorem eq_pairS {prog : Program} {w : World} {A : Around} {E : Value → Shared → Prop} {s : Shared} {h₀ : Heap} {L a a' : Addr} {news : Led} {b b' : Array UInt8} {t t' u u' : Tok} {S : Str} {ks : List Int} {Q : Value → Shared → Prop} (N : News h₀ L s.heap news) (h1 : (a, tupO [.str S u, .bytes b t]) ∈ news) (h2 : (a', tupO [.str S u', .bytes b' t']) ∈ news)
    (hb : KBw.bInts b = ks) (hb' : KBw.bInts b' = ks) (hu0 : A.units < cLine) (h : Q (.bool true) s) : wpAny (model prog w) A (compareOp .Eq (.ref a) (.ref a')) Q E s :=
  eq_pair ⟨_, (N _ h1).1, rfl, _, rfl⟩ ⟨_, (N _ h2).1, rfl, _, rfl⟩ (by have := SeqAt.EqAt.str_str (A := A.in1) (s := s) S u S u'; rwa [beq_self_eq_true] at this) hb hb' hu0 h
theorem rows_len4 : ∀ r ∈ rowsM, r.1.length ≤ 4 := by decide
inductive MkD (g : Heap) (L' TP TL : Addr) (p2 : Int) (t2 : Tok) (n2 : Nat) (o2 oc2 : Obj) (ks : List Int) (r : List Int × String) (news : Led) (s : Shared) (f : Flow) (s' : Shared) : Prop
  | mk : (f = .next) → ∀ h tk m Du t u b, (s' = { s with heap := h, toks := tk }) → (Fr g L' h m) → (Kp [Str.ofString "k", Str.ofString "mark", Str.ofString "word", Str.ofString "fits"] (fun y => if y = Str.ofString "due" then some (.ref Du) else none) m) → (News g L' h ((Du, tupO [.str (Str.ofString r.2) t, .bytes b u]) :: (L' + 1 + 1, o2) :: (L' + 1, oc2) :: (TP, listOf [Value.ref TL, .int p2 t2].toArray n2) :: news)) → (KBw.bInts b = if Str.ofString r.2 == Str.ofString "utf-7" then ks else ks.drop r.1.length) → MkD g L' TP TL p2 t2 n2 o2 oc2 ks r news s f s'
theorem sub_due {x y : Led} {a : Addr × Obj} {c : Led} : ∀ p ∈ a :: c, p ∈ a :: (x ++ c) := fun p hp => by
  rcases List.mem_cons.mp hp with rfl | hp
  · exact .head _
  · exact .tail _ (List.mem_append_right _ hp)
theorem utf9 {b : Array UInt8} (h : KBw.bInts b = ((rowsM.find? fun r => Str.ofString r.2 == Str.ofString "utf-9").map (·.1)).getD []) : (b.toList == []) = true := by
  have e : ((rowsM.find? fun r => Str.ofString r.2 == Str.ofString "utf-9").map (·.1)).getD [] = [] := by decide +kernel
  exact (bytes_beq (c := #[]) (ls := []) (h.trans e) rfl).trans (by decide)
theorem sub_tpn {x : Led} {a : Addr × Obj} {c : Led} : ∀ p ∈ a :: c, p ∈ x ++ (a :: c) := fun p hp => List.mem_append_right _ hp
noncomputable def StA (g : Heap) (L' : Addr) (n : Led) (s : Shared) (f : Flow) (s' : Shared) : Prop := f = .next ∧ ∃ h tk, s' = { s with heap := h, toks := tk } ∧ Fr g L' h (fun _ => none) ∧ News g L' h n
inductive JAa (L' : Addr) (o1 : Obj) (oc2 : Obj) (TP : Addr) (TL : Addr) (news : Led) (i : Nat) (zs : List Value) (n₂ : Led) : Prop
  | mk : ∀ p' t' n' us, (n₂ = (L' + 1 + 1, o1) :: (L' + 1, oc2) :: (TP, listOf [Value.ref TL, .int p' t'].toArray n') :: news) → (0 ≤ p') → (IntsAre zs us) → (us.length = i) → (∀ c ∈ us, 0 ≤ c ∧ c < 256) → JAa L' o1 oc2 TP TL news i zs n₂
theorem con_marks_right (w : World) (news : Led) (TP TL : Addr) (pos : Int) (t : Tok) (n k : Nat) (vs : List Value) (ns : List Int) (hT : ∀ p ∈ news, p.1 ≠ TP) (hTL : (TL, listOf vs.toArray k) ∈ news) (hi : IntsAre vs ns) (hlen : ns.length ≤ 60) (hp : 0 ≤ pos) :
    Con w 273 [.ref TP] 200 2000 ((TP, listOf [Value.ref TL, .int pos t].toArray n) :: news) (fun k => ∀ p' t' n', 0 ≤ p' → k (.bool true) ((TP, listOf [Value.ref TL, .int p' t'].toArray n') :: news)) := by
  k_with_none
  k_with "compareOp Eq bytes bytes" => (k_dflt (refine eq_bytesK (by kba_ints) (by kba_ints) ?_))
  k_with "compareOp NotEq bytes bytes" => (k_dflt (refine ne_bytesK (by kba_ints) (by kba_ints) ?_))
  k_with "call ref" => (k_here; k_dflt (refine' Con.use ?z45kC ?z45k1 ?z45k2 ?z45k3 ?z45k4 ?z45k5 ?z45kK ?z45kd ?z45ku ?_; (case z45k2 => k_asm); (case z45k4 => k_asm); (case z45kC => first | (refine' con_draw _ _ _ _ _ _ _ _ _ _ _ _ _ ?z45a1 ?z45a2 ?z45a3 ?z45a4 ?z45a5 ?z45a6 ?z45a7; (case z45a1 => k_updF); (case z45a2 => k_mem); (case z45a3 => assumption); (case z45a4 => assumption); (case z45a5 => assumption); (case z45a6 => omega); (case z45a7 => omega))); (case z45k1 => k_asm); (case z45k3 => k_asm); (case z45k5 => k_asm); (case z45kK => first | exact rfl | assumption); (case z45kd => ktr_room); (case z45ku => ktr_units); intro _ _ _ _ _ _ _ _ _ _; (try dsimp only); (try k_fold)))
  k_with "call ref" => (k_here; k_dflt (refine' Con.use ?z46kC ?z46k1 ?z46k2 ?z46k3 ?z46k4 ?z46k5 ?z46kK ?z46kd ?z46ku ?_; (case z46k2 => k_asm); (case z46k4 => k_asm); (case z46kC => first | exact con_marks _ _ rfl); (case z46k1 => k_asm); (case z46k3 => k_asm); (case z46k5 => k_asm); (case z46kK => first | exact rfl | assumption); (case z46kd => ktr_room); (case z46ku => ktr_units); intro _ _ _ _ _ _ _ _ _ _; (try dsimp only); (try k_fold)))
  k_with "call ref" => (k_here; k_dflt (refine' Con.use ?z47kC ?z47k1 ?z47k2 ?z47k3 ?z47k4 ?z47k5 ?z47kK ?z47kd ?z47ku ?_; (case z47k2 => k_asm); (case z47k4 => k_asm); (case z47kC => first | (refine' con_unmarked_none _ _ _ _ _ ?z47a1 ?z47a2 ?z47a3; (case z47a1 => assumption); (case z47a2 => omega); (case z47a3 => assumption))); (case z47k1 => k_asm); (case z47k3 => k_asm); (case z47k5 => k_asm); (case z47kK => first | exact rfl | assumption); (case z47kd => ktr_room); (case z47ku => ktr_units); intro _ _ _ _ _ _ _; (try dsimp only); (try k_fold)))
  k_with "call ref" => (k_here; k_dflt (refine' Con.use ?z48kC ?z48k1 ?z48k2 ?z48k3 ?z48k4 ?z48k5 ?z48kK ?z48kd ?z48ku ?_; (case z48k2 => k_asm); (case z48k4 => k_asm); (case z48kC => first | (refine' con_unmarked_some _ _ _ _ _ _ ?z48a1 ?z48a2 ?z48a3; (case z48a1 => assumption); (case z48a2 => omega); (case z48a3 => assumption))); (case z48k1 => k_asm); (case z48k3 => k_asm); (case z48k5 => k_asm); (case z48kK => first | exact rfl | assumption); (case z48kd => ktr_room); (case z48ku => ktr_units); intro _ _ _ _ _ _ _ _ _ _; (try dsimp only); (try k_fold)))
  k_with "call ref" => (k_here; k_dflt (refine' Con.use ?z49kC ?z49k1 ?z49k2 ?z49k3 ?z49k4 ?z49k5 ?z49kK ?z49kd ?z49ku ?_; (case z49k2 => k_asm); (case z49k4 => k_asm); (case z49kC => first | (refine' con_sniffed_none _ _ _ _ _ ?z49a1 ?z49a2 ?z49a3; (case z49a1 => assumption); (case z49a2 => omega); (case z49a3 => assumption))); (case z49k1 => k_asm); (case z49k3 => k_asm); (case z49k5 => k_asm); (case z49kK => first | exact rfl | assumption); (case z49kd => ktr_room); (case z49ku => ktr_units); intro _ _ _ _; (try dsimp only); (try k_fold)))
  k_with "call ref" => (k_here; k_dflt (refine' Con.use ?z50kC ?z50k1 ?z50k2 ?z50k3 ?z50k4 ?z50k5 ?z50kK ?z50kd ?z50ku ?_; (case z50k2 => k_asm); (case z50k4 => k_asm); (case z50kC => first | (refine' con_sniffed_some _ _ _ _ _ _ ?z50a1 ?z50a2 ?z50a3; (case z50a1 => assumption); (case z50a2 => omega); (case z50a3 => assumption))); (case z50k1 => k_asm); (case z50k3 => k_asm); (case z50k5 => k_asm); (case z50kK => first | exact rfl | assumption); (case z50kd => ktr_room); (case z50ku => ktr_units); intro _ _ _ _ _; (try dsimp only); (try k_fold)))
  k_with "call ref" => (k_here; k_dflt (refine' Con.use ?z51kC ?z51k1 ?z51k2 ?z51k3 ?z51k4 ?z51k5 ?z51kK ?z51kd ?z51ku ?_; (case z51k2 => k_asm); (case z51k4 => k_asm); (case z51kC => first | exact con_mark_of _ _ _ _); (case z51k1 => k_asm); (case z51k3 => k_asm); (case z51k5 => k_asm); (case z51kK => first | exact rfl | assumption); (case z51kd => ktr_room); (case z51ku => ktr_units); intro _ _ _ _ _ _ _; (try dsimp only); (try k_fold)))
  k_with "compareOp NotEq ref ref" => (k_here; (with_reducible show wpAny _ _ (compareOp CmpOp.NotEq (Value.ref _) (Value.ref _)) _ _ _); k_dflt (refine' ne_nil0 ?z52N ?z52a ?z52b ?z52u ?_; (case z52N => k_asm); (case z52a => k_mem); (case z52b => k_mem); (case z52u => ke_room)))
  k_with "compareOp NotEq ref ref" => (k_here; (with_reducible show wpAny _ _ (compareOp CmpOp.NotEq (Value.ref _) (Value.ref _)) _ _ _); k_dflt (refine' ne_nilK ?z53N ?z53a ?z53b ?z53u ?_; (case z53N => k_asm); (case z53a => k_mem); (case z53b => k_mem); (case z53u => ke_room)))
  k_with "subscriptTail" => (k_here; (with_reducible show wpAny _ _ (subscriptTail _ _ (Value.ref _) (Value.int _ _)) _ _ _); k_dflt (refine' item_K ?z54F ?z54X ?z54l ?z54a ?z54b ?z54c ?z54d ?_; (case z54F => k_asm); (case z54X => k_asm); (case z54l => assumption); (case z54a => decide); (case z54b => simp); (case z54c => decide); (case z54d => rfl)))
  k_with "subscriptTail" => (k_here; (with_reducible show wpAny _ _ (subscriptTail _ _ (Value.ref _) (Value.int _ _)) _ _ _); k_dflt (refine' item_marks ?z55F ?z55X ?z55a ?z55b ?_; (case z55F => k_asm); (case z55X => k_asm); (case z55a => omega); (case z55b => omega)); intro _ _ _ _ _ _ _ _)
  k_with "assign Tuple" => (k_here; (with_reducible show wpAny _ _ (assign (Expr.Tuple _ _ _) _ (Value.ref _)) _ _ _); k_dflt (refine' unpackK ?z56F ?z56N ?z56X ?z56k ?z56c ?z56d ?z56k1 ?z56k2 ?z56k3 ?_; (case z56F => k_asm); (case z56N => k_asm); (case z56X => k_asm); (case z56k => assumption); (case z56c => exact rfl); (case z56d => exact rfl); (case z56k1 => exact rfl); (case z56k2 => exact rfl); (case z56k3 => exact rfl)); intro _ _ _; (try k_sweep))
  k_with "call type:bytes" => (k_here; (with_reducible show wpAny _ _ (call (Value.type "bytes") [Value.bytes _ _]) _ _ _); k_dflt (refine bytes_bytes ?_))
  k_with_none
  k_with "compareOp Eq bytes bytes" => (k_dflt (refine eq_bytesK (by kba_ints) (by kba_ints) ?_))
  k_with "compareOp NotEq bytes bytes" => (k_dflt (refine ne_bytesK (by kba_ints) (by kba_ints) ?_))
  k_with "call ref" => (k_here; k_dflt (refine' Con.use ?z45kC ?z45k1 ?z45k2 ?z45k3 ?z45k4 ?z45k5 ?z45kK ?z45kd ?z45ku ?_; (case z45k2 => k_asm); (case z45k4 => k_asm); (case z45kC => first | (refine' con_draw _ _ _ _ _ _ _ _ _ _ _ _ _ ?z45a1 ?z45a2 ?z45a3 ?z45a4 ?z45a5 ?z45a6 ?z45a7; (case z45a1 => k_updF); (case z45a2 => k_mem); (case z45a3 => assumption); (case z45a4 => assumption); (case z45a5 => assumption); (case z45a6 => omega); (case z45a7 => omega))); (case z45k1 => k_asm); (case z45k3 => k_asm); (case z45k5 => k_asm); (case z45kK => first | exact rfl | assumption); (case z45kd => ktr_room); (case z45ku => ktr_units); intro _ _ _ _ _ _ _ _ _ _; (try dsimp only); (try k_fold)))
  k_with "call ref" => (k_here; k_dflt (refine' Con.use ?z46kC ?z46k1 ?z46k2 ?z46k3 ?z46k4 ?z46k5 ?z46kK ?z46kd ?z46ku ?_; (case z46k2 => k_asm); (case z46k4 => k_asm); (case z46kC => first | exact con_marks _ _ rfl); (case z46k1 => k_asm); (case z46k3 => k_asm); (case z46k5 => k_asm); (case z46kK => first | exact rfl | assumption); (case z46kd => ktr_room); (case z46ku => ktr_units); intro _ _ _ _ _ _ _ _ _ _; (try dsimp only); (try k_fold)))
  k_with "call ref" => (k_here; k_dflt (refine' Con.use ?z47kC ?z47k1 ?z47k2 ?z47k3 ?z47k4 ?z47k5 ?z47kK ?z47kd ?z47ku ?_; (case z47k2 => k_asm); (case z47k4 => k_asm); (case z47kC => first | (refine' con_unmarked_none _ _ _ _ _ ?z47a1 ?z47a2 ?z47a3; (case z47a1 => assumption); (case z47a2 => omega); (case z47a3 => assumption))); (case z47k1 => k_asm); (case z47k3 => k_asm); (case z47k5 => k_asm); (case z47kK => first | exact rfl | assumption); (case z47kd => ktr_room); (case z47ku => ktr_units); intro _ _ _ _ _ _ _; (try dsimp only); (try k_fold)))
  k_with "call ref" => (k_here; k_dflt (refine' Con.use ?z48kC ?z48k1 ?z48k2 ?z48k3 ?z48k4 ?z48k5 ?z48kK ?z48kd ?z48ku ?_; (case z48k2 => k_asm); (case z48k4 => k_asm); (case z48kC => first | (refine' con_unmarked_some _ _ _ _ _ _ ?z48a1 ?z48a2 ?z48a3; (case z48a1 => assumption); (case z48a2 => omega); (case z48a3 => assumption))); (case z48k1 => k_asm); (case z48k3 => k_asm); (case z48k5 => k_asm); (case z48kK => first | exact rfl | assumption); (case z48kd => ktr_room); (case z48ku => ktr_units); intro _ _ _ _ _ _ _ _ _ _; (try dsimp only); (try k_fold)))
  k_with "call ref" => (k_here; k_dflt (refine' Con.use ?z49kC ?z49k1 ?z49k2 ?z49k3 ?z49k4 ?z49k5 ?z49kK ?z49kd ?z49ku ?_; (case z49k2 => k_asm); (case z49k4 => k_asm); (case z49kC => first | (refine' con_sniffed_none _ _ _ _ _ ?z49a1 ?z49a2 ?z49a3; (case z49a1 => assumption); (case z49a2 => omega); (case z49a3 => assumption))); (case z49k1 => k_asm); (case z49k3 => k_asm); (case z49k5 => k_asm); (case z49kK => first | exact rfl | assumption); (case z49kd => ktr_room); (case z49ku => ktr_units); intro _ _ _ _; (try dsimp only); (try k_fold)))
  k_with "call ref" => (k_here; k_dflt (refine' Con.use ?z50kC ?z50k1 ?z50k2 ?z50k3 ?z50k4 ?z50k5 ?z50kK ?z50kd ?z50ku ?_; (case z50k2 => k_asm); (case z50k4 => k_asm); (case z50kC => first | (refine' con_sniffed_some _ _ _ _ _ _ ?z50a1 ?z50a2 ?z50a3; (case z50a1 => assumption); (case z50a2 => omega); (case z50a3 => assumption))); (case z50k1 => k_asm); (case z50k3 => k_asm); (case z50k5 => k_asm); (case z50kK => first | exact rfl | assumption); (case z50kd => ktr_room); (case z50ku => ktr_units); intro _ _ _ _ _; (try dsimp only); (try k_fold)))
  k_with "call ref" => (k_here; k_dflt (refine' Con.use ?z51kC ?z51k1 ?z51k2 ?z51k3 ?z51k4 ?z51k5 ?z51kK ?z51kd ?z51ku ?_; (case z51k2 => k_asm); (case z51k4 => k_asm); (case z51kC => first | exact con_mark_of _ _ _ _); (case z51k1 => k_asm); (case z51k3 => k_asm); (case z51k5 => k_asm); (case z51kK => first | exact rfl | assumption); (case z51kd => ktr_room); (case z51ku => ktr_units); intro _ _ _ _ _ _ _; (try dsimp only); (try k_fold)))
  k_with "compareOp NotEq ref ref" => (k_here; (with_reducible show wpAny _ _ (compareOp CmpOp.NotEq (Value.ref _) (Value.ref _)) _ _ _); k_dflt (refine' ne_nil0 ?z52N ?z52a ?z52b ?z52u ?_; (case z52N => k_asm); (case z52a => k_mem); (case z52b => k_mem); (case z52u => ke_room)))
  k_with "compareOp NotEq ref ref" => (k_here; (with_reducible show wpAny _ _ (compareOp CmpOp.NotEq (Value.ref _) (Value.ref _)) _ _ _); k_dflt (refine' ne_nilK ?z53N ?z53a ?z53b ?z53u ?_; (case z53N => k_asm); (case z53a => k_mem); (case z53b => k_mem); (case z53u => ke_room)))
  k_with "subscriptTail" => (k_here; (with_reducible show wpAny _ _ (subscriptTail _ _ (Value.ref _) (Value.int _ _)) _ _ _); k_dflt (refine' item_K ?z54F ?z54X ?z54l ?z54a ?z54b ?z54c ?z54d ?_; (case z54F => k_asm); (case z54X => k_asm); (case z54l => assumption); (case z54a => decide); (case z54b => simp); (case z54c => decide); (case z54d => rfl)))
  k_with "subscriptTail" => (k_here; (with_reducible show wpAny _ _ (subscriptTail _ _ (Value.ref _) (Value.int _ _)) _ _ _); k_dflt (refine' item_marks ?z55F ?z55X ?z55a ?z55b ?_; (case z55F => k_asm); (case z55X => k_asm); (case z55a => omega); (case z55b => omega)); intro _ _ _ _ _ _ _ _)
  k_with "assign Tuple" => (k_here; (with_reducible show wpAny _ _ (assign (Expr.Tuple _ _ _) _ (Value.ref _)) _ _ _); k_dflt (refine' unpackK ?z56F ?z56N ?z56X ?z56k ?z56c ?z56d ?z56k1 ?z56k2 ?z56k3 ?_; (case z56F => k_asm); (case z56N => k_asm); (case z56X => k_asm); (case z56k => assumption); (case z56c => exact rfl); (case z56d => exact rfl); (case z56k1 => exact rfl); (case z56k2 => exact rfl); (case z56k3 => exact rfl)); intro _ _ _; (try k_sweep))
  k_with "call type:bytes" => (k_here; (with_reducible show wpAny _ _ (call (Value.type "bytes") [Value.bytes _ _]) _ _ _); k_dflt (refine bytes_bytes ?_))
  refine' Con.enterC [(Str.ofString "tape", .ref TP)] 199 1997 ?k6 ?k7 ?kd ?ku ?k9 ?kB ?kD ?_ ?c2 ?c3 ?c4
  case k6 => k_is
  case k7 => k_is
  case kd => decide
  case ku => decide
  case k9 => intro s9 X9; first | exact BindsTo.of_eq rfl | exact binds_K (by k_in) rfl (by k_is) rfl rfl rfl
  case kB => exact rfl
  case kD => decide +kernel
  case c2 => exact rfl
  case c3 => exact rfl
  case c4 => exact rfl
  intro loose mean mg mb dp un gd outer A₀ base g' h' L' q0 gg dd oo tk0 cells' k0 B' X' T' hdp hun F' N' Y' l1 hret lv
  refine nameAE ?_
  intro Av Ev
  obtain ⟨oc1, oc2, hE, dc1, dc2⟩ := CellsAre.two Y'
  subst hE
  clear Y'
  replace dc1 : oc1.data = .cell (none) := dc1.trans (by rfl)
  replace dc2 : oc2.data = .cell (some (.ref TP)) := dc2.trans (by rfl)
  simp only [List.cons_append, List.nil_append] at N'
  replace F' : Fr g' L' h' (fun _ => none) := F'
  try generalize s.toks + List.length _ = tk0
  (try dsimp only)
  (try k_fold)
  have hne : TL ≠ TP := hT _ hTL
  k_with "exec If Compare cons nil" => (k_dflt (refine WStop.go ?_))
  k_steps
  unfold WStop
  refine wpAny_mono (Q := fun f s' => StA g' L' ((L' + 1 + 1, oc1) :: (L' + 1, oc2) :: (TP, listOf [Value.ref TL, .int pos t].toArray n) :: news) ⟨h', gg, dd, tk0, oo⟩ f s') ?first ?rest fun _ _ x => x
  case first =>
    k_with_none
    k_with "compareOp Eq bytes bytes" => (k_dflt (refine eq_bytesK (by kba_ints) (by kba_ints) ?_))
    k_with "compareOp NotEq bytes bytes" => (k_dflt (refine ne_bytesK (by kba_ints) (by kba_ints) ?_))
    k_with "call ref" => (k_here; k_dflt (refine' Con.use ?z45kC ?z45k1 ?z45k2 ?z45k3 ?z45k4 ?z45k5 ?z45kK ?z45kd ?z45ku ?_; (case z45k2 => k_asm); (case z45k4 => k_asm); (case z45kC => first | (refine' con_draw _ _ _ _ _ _ _ _ _ _ _ _ _ ?z45a1 ?z45a2 ?z45a3 ?z45a4 ?z45a5 ?z45a6 ?z45a7; (case z45a1 => k_updF); (case z45a2 => k_mem); (case z45a3 => assumption); (case z45a4 => assumption); (case z45a5 => assumption); (case z45a6 => omega); (case z45a7 => omega))); (case z45k1 => k_asm); (case z45k3 => k_asm); (case z45k5 => k_asm); (case z45kK => first | exact rfl | assumption); (case z45kd => ktr_room); (case z45ku => ktr_units); intro _ _ _ _ _ _ _ _ _ _; (try dsimp only); (try k_fold)))
    k_with "call ref" => (k_here; k_dflt (refine' Con.use ?z46kC ?z46k1 ?z46k2 ?z46k3 ?z46k4 ?z46k5 ?z46kK ?z46kd ?z46ku ?_; (case z46k2 => k_asm); (case z46k4 => k_asm); (case z46kC => first | exact con_marks _ _ rfl); (case z46k1 => k_asm); (case z46k3 => k_asm); (case z46k5 => k_asm); (case z46kK => first | exact rfl | assumption); (case z46kd => ktr_room); (case z46ku => ktr_units); intro _ _ _ _ _ _ _ _ _ _; (try dsimp only); (try k_fold)))
    k_with "call ref" => (k_here; k_dflt (refine' Con.use ?z47kC ?z47k1 ?z47k2 ?z47k3 ?z47k4 ?z47k5 ?z47kK ?z47kd ?z47ku ?_; (case z47k2 => k_asm); (case z47k4 => k_asm); (case z47kC => first | (refine' con_unmarked_none _ _ _ _ _ ?z47a1 ?z47a2 ?z47a3; (case z47a1 => assumption); (case z47a2 => omega); (case z47a3 => assumption))); (case z47k1 => k_asm); (case z47k3 => k_asm); (case z47k5 => k_asm); (case z47kK => first | exact rfl | assumption); (case z47kd => ktr_room); (case z47ku => ktr_units); intro _ _ _ _ _ _ _; (try dsimp only); (try k_fold)))
    k_with "call ref" => (k_here; k_dflt (refine' Con.use ?z48kC ?z48k1 ?z48k2 ?z48k3 ?z48k4 ?z48k5 ?z48kK ?z48kd ?z48ku ?_; (case z48k2 => k_asm); (case z48k4 => k_asm); (case z48kC => first | (refine' con_unmarked_some _ _ _ _ _ _ ?z48a1 ?z48a2 ?z48a3; (case z48a1 => assumption); (case z48a2 => omega); (case z48a3 => assumption))); (case z48k1 => k_asm); (case z48k3 => k_asm); (case z48k5 => k_asm); (case z48kK => first | exact rfl | assumption); (case z48kd => ktr_room); (case z48ku => ktr_units); intro _ _ _ _ _ _ _ _ _ _; (try dsimp only); (try k_fold)))
    k_with "call ref" => (k_here; k_dflt (refine' Con.use ?z49kC ?z49k1 ?z49k2 ?z49k3 ?z49k4 ?z49k5 ?z49kK ?z49kd ?z49ku ?_; (case z49k2 => k_asm); (case z49k4 => k_asm); (case z49kC => first | (refine' con_sniffed_none _ _ _ _ _ ?z49a1 ?z49a2 ?z49a3; (case z49a1 => assumption); (case z49a2 => omega); (case z49a3 => assumption))); (case z49k1 => k_asm); (case z49k3 => k_asm); (case z49k5 => k_asm); (case z49kK => first | exact rfl | assumption); (case z49kd => ktr_room); (case z49ku => ktr_units); intro _ _ _ _; (try dsimp only); (try k_fold)))
    k_with "call ref" => (k_here; k_dflt (refine' Con.use ?z50kC ?z50k1 ?z50k2 ?z50k3 ?z50k4 ?z50k5 ?z50kK ?z50kd ?z50ku ?_; (case z50k2 => k_asm); (case z50k4 => k_asm); (case z50kC => first | (refine' con_sniffed_some _ _ _ _ _ _ ?z50a1 ?z50a2 ?z50a3; (case z50a1 => assumption); (case z50a2 => omega); (case z50a3 => assumption))); (case z50k1 => k_asm); (case z50k3 => k_asm); (case z50k5 => k_asm); (case z50kK => first | exact rfl | assumption); (case z50kd => ktr_room); (case z50ku => ktr_units); intro _ _ _ _ _; (try dsimp only); (try k_fold)))
    k_with "call ref" => (k_here; k_dflt (refine' Con.use ?z51kC ?z51k1 ?z51k2 ?z51k3 ?z51k4 ?z51k5 ?z51kK ?z51kd ?z51ku ?_; (case z51k2 => k_asm); (case z51k4 => k_asm); (case z51kC => first | exact con_mark_of _ _ _ _); (case z51k1 => k_asm); (case z51k3 => k_asm); (case z51k5 => k_asm); (case z51kK => first | exact rfl | assumption); (case z51kd => ktr_room); (case z51ku => ktr_units); intro _ _ _ _ _ _ _; (try dsimp only); (try k_fold)))
    k_with "compareOp NotEq ref ref" => (k_here; (with_reducible show wpAny _ _ (compareOp CmpOp.NotEq (Value.ref _) (Value.ref _)) _ _ _); k_dflt (refine' ne_nil0 ?z52N ?z52a ?z52b ?z52u ?_; (case z52N => k_asm); (case z52a => k_mem); (case z52b => k_mem); (case z52u => ke_room)))
    k_with "compareOp NotEq ref ref" => (k_here; (with_reducible show wpAny _ _ (compareOp CmpOp.NotEq (Value.ref _) (Value.ref _)) _ _ _); k_dflt (refine' ne_nilK ?z53N ?z53a ?z53b ?z53u ?_; (case z53N => k_asm); (case z53a => k_mem); (case z53b => k_mem); (case z53u => ke_room)))
    k_with "subscriptTail" => (k_here; (with_reducible show wpAny _ _ (subscriptTail _ _ (Value.ref _) (Value.int _ _)) _ _ _); k_dflt (refine' item_K ?z54F ?z54X ?z54l ?z54a ?z54b ?z54c ?z54d ?_; (case z54F => k_asm); (case z54X => k_asm); (case z54l => assumption); (case z54a => decide); (case z54b => simp); (case z54c => decide); (case z54d => rfl)))
    k_with "subscriptTail" => (k_here; (with_reducible show wpAny _ _ (subscriptTail _ _ (Value.ref _) (Value.int _ _)) _ _ _); k_dflt (refine' item_marks ?z55F ?z55X ?z55a ?z55b ?_; (case z55F => k_asm); (case z55X => k_asm); (case z55a => omega); (case z55b => omega)); intro _ _ _ _ _ _ _ _)
    k_with "assign Tuple" => (k_here; (with_reducible show wpAny _ _ (assign (Expr.Tuple _ _ _) _ (Value.ref _)) _ _ _); k_dflt (refine' unpackK ?z56F ?z56N ?z56X ?z56k ?z56c ?z56d ?z56k1 ?z56k2 ?z56k3 ?_; (case z56F => k_asm); (case z56N => k_asm); (case z56X => k_asm); (case z56k => assumption); (case z56c => exact rfl); (case z56d => exact rfl); (case z56k1 => exact rfl); (case z56k2 => exact rfl); (case z56k3 => exact rfl)); intro _ _ _; (try k_sweep))
    k_with "call type:bytes" => (k_here; (with_reducible show wpAny _ _ (call (Value.type "bytes") [Value.bytes _ _]) _ _ _); k_dflt (refine bytes_bytes ?_))
    k_with "eval ListComp" => (k_dflt (refine ListComp_J (by k_asm) (by with_unfolding_all rfl) (by decide) (by rfl) (by decide) ?_))
    k_steps
    rename RowsAre _ _ rowsM => hR9
    rename_i l9 vs9 n9 led9 hs9 _ _ _ _
    have hvl : vs9.length = 13 := hR9.length
    k_dflt (refine comp_rows (by rfl) (by k_asm) (by k_asm) (by k_mem) (by rw [hvl, sizeLine_eq]; omega) (by rfl) (by rfl) (by rfl) (by decide) (Z := RowZ) (rows_z hR9) (fun i ys n₁ => ∃ own1, n₁ = own1 ++ ((l9, listOf vs9.toArray n9) :: led9) ∧ RowsAre own1 ys (rowsM.take i)) ⟨[], rfl, .nil⟩ ?turn ?fin)
    case turn =>
      intro g9 i ys n₁ own C D oC m₂ h9 tk9 E9 hi9 hz hJ hoff hw hown hoC F9 N9
      obtain ⟨own1, rfl, hys⟩ := hJ
      obtain ⟨x, y, ⟨b, t, u, rfl, rfl, hb, hlt⟩, hxa, hxb⟩ := hz
      obtain ⟨rest, hrest⟩ : ∃ r, r = own1 ++ ((l9, listOf vs9.toArray n9) :: led9) ++ own := ⟨_, rfl⟩
      rw [← hrest] at N9
      refine tests_ce ?_
      intro qc hqc
      (try dsimp only)
      k_steps
      rename _ < _ ∧ _ => hLt
      have hq := tb_ltOf hLt.2.2
      subst hrest
      refine CE.go hqc (n' := (_, _) :: (own1 ++ ((l9, listOf vs9.toArray n9) :: led9))) (by k_asm) (news_sub (by k_asm) sub_ce) (Off.cons (off_new hw (l := (D, _) :: (C, _) :: (own1 ++ ((l9, listOf vs9.toArray n9) :: led9) ++ own)) sub_own ?_) hoff) ⟨(_, _) :: own1, rfl, ?_⟩
      · exact all_lt2 hLt.1 (all_lt2 hLt.2.1 hq)
      · rw [rows_snoc i hlt]
        exact (hys.sub fun p hp => .tail _ hp).snoc ⟨_, _, _, _, rfl, .head _, hb⟩
    case fin =>
      rintro g9 tk9 ys n₁ ⟨own1, rfl, hys⟩ D h9 tk9 F9 N9 hD
      (try dsimp only)
      k_steps
      k_dflt (refine list_copyKT (by k_asm) (by k_asm) (by exact marks_tup (X'.keeps F9.keep)) ?_ (by rw [sizeLine_eq]; decide))
      intro D8 c8 h8 F8 N8 l8
      try dsimp only
      have X8 := X'.keeps F8.keep
      rw [hvl, List.take_of_length_le (by decide)] at hys
      k_dflt (refine ne_rows (n := 13) (rs := fun i => rowsM.getD i ([], "")) (N8.isList (.tail _ (.head _))) (N8.isList (.head _)) hys.length rfl (fun i v e => ((hys.item e).2.heap (N8) (fun p hp => .tail _ (.tail _ (List.mem_append_left _ hp))))) (marks_row X8) (by ke_room) (by ke_room) ?_)
      k_steps
      exact ⟨rfl, _, _, rfl, F8, news_sub N8 (fun p hp => .tail _ (.tail _ (List.mem_append_right _ (.tail _ (hs9 p hp)))))⟩
  case rest =>
    rintro f s' ⟨rfl, h1, tk1, rfl, F1, N1⟩
    k_with_none
    k_with "compareOp Eq bytes bytes" => (k_dflt (refine eq_bytesK (by kba_ints) (by kba_ints) ?_))
    k_with "compareOp NotEq bytes bytes" => (k_dflt (refine ne_bytesK (by kba_ints) (by kba_ints) ?_))
    k_with "call ref" => (k_here; k_dflt (refine' Con.use ?z45kC ?z45k1 ?z45k2 ?z45k3 ?z45k4 ?z45k5 ?z45kK ?z45kd ?z45ku ?_; (case z45k2 => k_asm); (case z45k4 => k_asm); (case z45kC => first | (refine' con_draw _ _ _ _ _ _ _ _ _ _ _ _ _ ?z45a1 ?z45a2 ?z45a3 ?z45a4 ?z45a5 ?z45a6 ?z45a7; (case z45a1 => k_updF); (case z45a2 => k_mem); (case z45a3 => assumption); (case z45a4 => assumption); (case z45a5 => assumption); (case z45a6 => omega); (case z45a7 => omega))); (case z45k1 => k_asm); (case z45k3 => k_asm); (case z45k5 => k_asm); (case z45kK => first | exact rfl | assumption); (case z45kd => ktr_room); (case z45ku => ktr_units); intro _ _ _ _ _ _ _ _ _ _; (try dsimp only); (try k_fold)))
    k_with "call ref" => (k_here; k_dflt (refine' Con.use ?z46kC ?z46k1 ?z46k2 ?z46k3 ?z46k4 ?z46k5 ?z46kK ?z46kd ?z46ku ?_; (case z46k2 => k_asm); (case z46k4 => k_asm); (case z46kC => first | exact con_marks _ _ rfl); (case z46k1 => k_asm); (case z46k3 => k_asm); (case z46k5 => k_asm); (case z46kK => first | exact rfl | assumption); (case z46kd => ktr_room); (case z46ku => ktr_units); intro _ _ _ _ _ _ _ _ _ _; (try dsimp only); (try k_fold)))
    k_with "call ref" => (k_here; k_dflt (refine' Con.use ?z47kC ?z47k1 ?z47k2 ?z47k3 ?z47k4 ?z47k5 ?z47kK ?z47kd ?z47ku ?_; (case z47k2 => k_asm); (case z47k4 => k_asm); (case z47kC => first | (refine' con_unmarked_none _ _ _ _ _ ?z47a1 ?z47a2 ?z47a3; (case z47a1 => assumption); (case z47a2 => omega); (case z47a3 => assumption))); (case z47k1 => k_asm); (case z47k3 => k_asm); (case z47k5 => k_asm); (case z47kK => first | exact rfl | assumption); (case z47kd => ktr_room); (case z47ku => ktr_units); intro _ _ _ _ _ _ _; (try dsimp only); (try k_fold)))
    k_with "call ref" => (k_here; k_dflt (refine' Con.use ?z48kC ?z48k1 ?z48k2 ?z48k3 ?z48k4 ?z48k5 ?z48kK ?z48kd ?z48ku ?_; (case z48k2 => k_asm); (case z48k4 => k_asm); (case z48kC => first | (refine' con_unmarked_some _ _ _ _ _ _ ?z48a1 ?z48a2 ?z48a3; (case z48a1 => assumption); (case z48a2 => omega); (case z48a3 => assumption))); (case z48k1 => k_asm); (case z48k3 => k_asm); (case z48k5 => k_asm); (case z48kK => first | exact rfl | assumption); (case z48kd => ktr_room); (case z48ku => ktr_units); intro _ _ _ _ _ _ _ _ _ _; (try dsimp only); (try k_fold)))
    k_with "call ref" => (k_here; k_dflt (refine' Con.use ?z49kC ?z49k1 ?z49k2 ?z49k3 ?z49k4 ?z49k5 ?z49kK ?z49kd ?z49ku ?_; (case z49k2 => k_asm); (case z49k4 => k_asm); (case z49kC => first | (refine' con_sniffed_none _ _ _ _ _ ?z49a1 ?z49a2 ?z49a3; (case z49a1 => assumption); (case z49a2 => omega); (case z49a3 => assumption))); (case z49k1 => k_asm); (case z49k3 => k_asm); (case z49k5 => k_asm); (case z49kK => first | exact rfl | assumption); (case z49kd => ktr_room); (case z49ku => ktr_units); intro _ _ _ _; (try dsimp only); (try k_fold)))
    k_with "call ref" => (k_here; k_dflt (refine' Con.use ?z50kC ?z50k1 ?z50k2 ?z50k3 ?z50k4 ?z50k5 ?z50kK ?z50kd ?z50ku ?_; (case z50k2 => k_asm); (case z50k4 => k_asm); (case z50kC => first | (refine' con_sniffed_some _ _ _ _ _ _ ?z50a1 ?z50a2 ?z50a3; (case z50a1 => assumption); (case z50a2 => omega); (case z50a3 => assumption))); (case z50k1 => k_asm); (case z50k3 => k_asm); (case z50k5 => k_asm); (case z50kK => first | exact rfl | assumption); (case z50kd => ktr_room); (case z50ku => ktr_units); intro _ _ _ _ _; (try dsimp only); (try k_fold)))
    k_with "call ref" => (k_here; k_dflt (refine' Con.use ?z51kC ?z51k1 ?z51k2 ?z51k3 ?z51k4 ?z51k5 ?z51kK ?z51kd ?z51ku ?_; (case z51k2 => k_asm); (case z51k4 => k_asm); (case z51kC => first | exact con_mark_of _ _ _ _); (case z51k1 => k_asm); (case z51k3 => k_asm); (case z51k5 => k_asm); (case z51kK => first | exact rfl | assumption); (case z51kd => ktr_room); (case z51ku => ktr_units); intro _ _ _ _ _ _ _; (try dsimp only); (try k_fold)))
    k_with "compareOp NotEq ref ref" => (k_here; (with_reducible show wpAny _ _ (compareOp CmpOp.NotEq (Value.ref _) (Value.ref _)) _ _ _); k_dflt (refine' ne_nil0 ?z52N ?z52a ?z52b ?z52u ?_; (case z52N => k_asm); (case z52a => k_mem); (case z52b => k_mem); (case z52u => ke_room)))
    k_with "compareOp NotEq ref ref" => (k_here; (with_reducible show wpAny _ _ (compareOp CmpOp.NotEq (Value.ref _) (Value.ref _)) _ _ _); k_dflt (refine' ne_nilK ?z53N ?z53a ?z53b ?z53u ?_; (case z53N => k_asm); (case z53a => k_mem); (case z53b => k_mem); (case z53u => ke_room)))
    k_with "subscriptTail" => (k_here; (with_reducible show wpAny _ _ (subscriptTail _ _ (Value.ref _) (Value.int _ _)) _ _ _); k_dflt (refine' item_K ?z54F ?z54X ?z54l ?z54a ?z54b ?z54c ?z54d ?_; (case z54F => k_asm); (case z54X => k_asm); (case z54l => assumption); (case z54a => decide); (case z54b => simp); (case z54c => decide); (case z54d => rfl)))
    k_with "subscriptTail" => (k_here; (with_reducible show wpAny _ _ (subscriptTail _ _ (Value.ref _) (Value.int _ _)) _ _ _); k_dflt (refine' item_marks ?z55F ?z55X ?z55a ?z55b ?_; (case z55F => k_asm); (case z55X => k_asm); (case z55a => omega); (case z55b => omega)); intro _ _ _ _ _ _ _ _)
    k_with "assign Tuple" => (k_here; (with_reducible show wpAny _ _ (assign (Expr.Tuple _ _ _) _ (Value.ref _)) _ _ _); k_dflt (refine' unpackK ?z56F ?z56N ?z56X ?z56k ?z56c ?z56d ?z56k1 ?z56k2 ?z56k3 ?_; (case z56F => k_asm); (case z56N => k_asm); (case z56X => k_asm); (case z56k => assumption); (case z56c => exact rfl); (case z56d => exact rfl); (case z56k1 => exact rfl); (case z56k2 => exact rfl); (case z56k3 => exact rfl)); intro _ _ _; (try k_sweep))
    k_with "call type:bytes" => (k_here; (with_reducible show wpAny _ _ (call (Value.type "bytes") [Value.bytes _ _]) _ _ _); k_dflt (refine bytes_bytes ?_))
    have hTPl : @LT.lt Nat instLTNat TP L' := l1 _ (.head _)
    have hPl : ∀ p ∈ news, p.1 < L' := fun p hp => l1 p (.tail _ hp)
    have hL218 : L' ≠ 218 := Ne.symm (Fr.ne_K F1 X' (by k_is))
    k_with "exec For Tuple Call cons nil" => (k_dflt ((rename Fr _ _ _ _ => lF9); (with_unfolding_all refine' For_turns lF9 ?_; k_whole)))
    k_steps
    k_dflt (refine for_enum_tup (vs := marksV) (by rfl) (by k_asm) (by k_asm) (by exact marks_tup (X'.keeps (Fr.keep (by k_asm)))) hL218 (fun i m₁ n₁ => n₁ = (L' + 1 + 1, oc1) :: (L' + 1, oc2) :: (TP, listOf [Value.ref TL, .int pos t].toArray n) :: news ∧ Kp [Str.ofString "k", Str.ofString "mark", Str.ofString "word"] (fun _ => none) m₁) ⟨rfl, .refl⟩ ?turn ?fin)
    case turn =>
      intro i v t9 TT m₁ n₁ own h9 tk9 hv hT9 hJ hoff hw hown F9 N9
      obtain ⟨rfl, hkp⟩ := hJ
      obtain ⟨c1, c2, c3, rfl⟩ := hkp.shape3
      obtain ⟨a9, b9, t8, u8, n8, rfl, hla9, hb9, hlt⟩ := marks_look (w := w) i v hv
      obtain ⟨rest, hrest⟩ : ∃ r, r = news ++ own := ⟨_, rfl⟩
      simp only [List.cons_append] at N9
      rw [← hrest] at N9
      have hmk := marks_find i hlt
      k_steps
      all_goals subst hrest
      all_goals first
        | exact TurnEnd.intro (n' := (L' + 1 + 1, oc1) :: (L' + 1, oc2) :: (TP, _) :: news) (by k_asm) (by k_asm) hoff ⟨rfl, (by walk_at "kp")⟩
        | (rename _ < (10 : Int) => hq; exact absurd (hmk.trans (if_pos (by omega))) ‹_›)
        | (rename ¬ _ < (10 : Int) => hq; exact absurd (hmk.trans (if_neg (by omega))) ‹_›)
    case fin =>
      rintro m₁ n₁ h9 tk9 ⟨rfl, hkp⟩ F9 N9
      obtain ⟨c1, c2, c3, rfl⟩ := hkp.shape3
      k_with "eval ListComp" => (k_dflt (refine WStop.go ?_))
      k_steps
      unfold WStop
      rename KBw.bInts (KBy.picked _ none _) = _ => hcut
      rename List.length _ ≤ 4 => hlen4
      rename Obj.data _ = Data.cell (some (Value.bytes _ _)) => d1
      rename News _ _ _ ((L' + 1 + 1, _) :: _) => N7
      rename Fr _ _ _ _ => F7
      try clear lF9
      try clear N1
      try clear N9
      try clear F9
      try clear hkp
      k_with_none
      k_with "compareOp Eq bytes bytes" => (k_dflt (refine eq_bytesK (by kba_ints) (by kba_ints) ?_))
      k_with "compareOp NotEq bytes bytes" => (k_dflt (refine ne_bytesK (by kba_ints) (by kba_ints) ?_))
      k_with "call ref" => (k_here; k_dflt (refine' Con.use ?z45kC ?z45k1 ?z45k2 ?z45k3 ?z45k4 ?z45k5 ?z45kK ?z45kd ?z45ku ?_; (case z45k2 => k_asm); (case z45k4 => k_asm); (case z45kC => first | (refine' con_draw _ _ _ _ _ _ _ _ _ _ _ _ _ ?z45a1 ?z45a2 ?z45a3 ?z45a4 ?z45a5 ?z45a6 ?z45a7; (case z45a1 => k_updF); (case z45a2 => k_mem); (case z45a3 => assumption); (case z45a4 => assumption); (case z45a5 => assumption); (case z45a6 => omega); (case z45a7 => omega))); (case z45k1 => k_asm); (case z45k3 => k_asm); (case z45k5 => k_asm); (case z45kK => first | exact rfl | assumption); (case z45kd => ktr_room); (case z45ku => ktr_units); intro _ _ _ _ _ _ _ _ _ _; (try dsimp only); (try k_fold)))
      k_with "call ref" => (k_here; k_dflt (refine' Con.use ?z46kC ?z46k1 ?z46k2 ?z46k3 ?z46k4 ?z46k5 ?z46kK ?z46kd ?z46ku ?_; (case z46k2 => k_asm); (case z46k4 => k_asm); (case z46kC => first | exact con_marks _ _ rfl); (case z46k1 => k_asm); (case z46k3 => k_asm); (case z46k5 => k_asm); (case z46kK => first | exact rfl | assumption); (case z46kd => ktr_room); (case z46ku => ktr_units); intro _ _ _ _ _ _ _ _ _ _; (try dsimp only); (try k_fold)))
      k_with "call ref" => (k_here; k_dflt (refine' Con.use ?z47kC ?z47k1 ?z47k2 ?z47k3 ?z47k4 ?z47k5 ?z47kK ?z47kd ?z47ku ?_; (case z47k2 => k_asm); (case z47k4 => k_asm); (case z47kC => first | (refine' con_unmarked_none _ _ _ _ _ ?z47a1 ?z47a2 ?z47a3; (case z47a1 => assumption); (case z47a2 => omega); (case z47a3 => assumption))); (case z47k1 => k_asm); (case z47k3 => k_asm); (case z47k5 => k_asm); (case z47kK => first | exact rfl | assumption); (case z47kd => ktr_room); (case z47ku => ktr_units); intro _ _ _ _ _ _ _; (try dsimp only); (try k_fold)))
      k_with "call ref" => (k_here; k_dflt (refine' Con.use ?z48kC ?z48k1 ?z48k2 ?z48k3 ?z48k4 ?z48k5 ?z48kK ?z48kd ?z48ku ?_; (case z48k2 => k_asm); (case z48k4 => k_asm); (case z48kC => first | (refine' con_unmarked_some _ _ _ _ _ _ ?z48a1 ?z48a2 ?z48a3; (case z48a1 => assumption); (case z48a2 => omega); (case z48a3 => assumption))); (case z48k1 => k_asm); (case z48k3 => k_asm); (case z48k5 => k_asm); (case z48kK => first | exact rfl | assumption); (case z48kd => ktr_room); (case z48ku => ktr_units); intro _ _ _ _ _ _ _ _ _ _; (try dsimp only); (try k_fold)))
      k_with "call ref" => (k_here; k_dflt (refine' Con.use ?z49kC ?z49k1 ?z49k2 ?z49k3 ?z49k4 ?z49k5 ?z49kK ?z49kd ?z49ku ?_; (case z49k2 => k_asm); (case z49k4 => k_asm); (case z49kC => first | (refine' con_sniffed_none _ _ _ _ _ ?z49a1 ?z49a2 ?z49a3; (case z49a1 => assumption); (case z49a2 => omega); (case z49a3 => assumption))); (case z49k1 => k_asm); (case z49k3 => k_asm); (case z49k5 => k_asm); (case z49kK => first | exact rfl | assumption); (case z49kd => ktr_room); (case z49ku => ktr_units); intro _ _ _ _; (try dsimp only); (try k_fold)))
      k_with "call ref" => (k_here; k_dflt (refine' Con.use ?z50kC ?z50k1 ?z50k2 ?z50k3 ?z50k4 ?z50k5 ?z50kK ?z50kd ?z50ku ?_; (case z50k2 => k_asm); (case z50k4 => k_asm); (case z50kC => first | (refine' con_sniffed_some _ _ _ _ _ _ ?z50a1 ?z50a2 ?z50a3; (case z50a1 => assumption); (case z50a2 => omega); (case z50a3 => assumption))); (case z50k1 => k_asm); (case z50k3 => k_asm); (case z50k5 => k_asm); (case z50kK => first | exact rfl | assumption); (case z50kd => ktr_room); (case z50ku => ktr_units); intro _ _ _ _ _; (try dsimp only); (try k_fold)))
      k_with "call ref" => (k_here; k_dflt (refine' Con.use ?z51kC ?z51k1 ?z51k2 ?z51k3 ?z51k4 ?z51k5 ?z51kK ?z51kd ?z51ku ?_; (case z51k2 => k_asm); (case z51k4 => k_asm); (case z51kC => first | exact con_mark_of _ _ _ _); (case z51k1 => k_asm); (case z51k3 => k_asm); (case z51k5 => k_asm); (case z51kK => first | exact rfl | assumption); (case z51kd => ktr_room); (case z51ku => ktr_units); intro _ _ _ _ _ _ _; (try dsimp only); (try k_fold)))
      k_with "compareOp NotEq ref ref" => (k_here; (with_reducible show wpAny _ _ (compareOp CmpOp.NotEq (Value.ref _) (Value.ref _)) _ _ _); k_dflt (refine' ne_nil0 ?z52N ?z52a ?z52b ?z52u ?_; (case z52N => k_asm); (case z52a => k_mem); (case z52b => k_mem); (case z52u => ke_room)))
      k_with "compareOp NotEq ref ref" => (k_here; (with_reducible show wpAny _ _ (compareOp CmpOp.NotEq (Value.ref _) (Value.ref _)) _ _ _); k_dflt (refine' ne_nilK ?z53N ?z53a ?z53b ?z53u ?_; (case z53N => k_asm); (case z53a => k_mem); (case z53b => k_mem); (case z53u => ke_room)))
      k_with "subscriptTail" => (k_here; (with_reducible show wpAny _ _ (subscriptTail _ _ (Value.ref _) (Value.int _ _)) _ _ _); k_dflt (refine' item_K ?z54F ?z54X ?z54l ?z54a ?z54b ?z54c ?z54d ?_; (case z54F => k_asm); (case z54X => k_asm); (case z54l => assumption); (case z54a => decide); (case z54b => simp); (case z54c => decide); (case z54d => rfl)))
      k_with "subscriptTail" => (k_here; (with_reducible show wpAny _ _ (subscriptTail _ _ (Value.ref _) (Value.int _ _)) _ _ _); k_dflt (refine' item_marks ?z55F ?z55X ?z55a ?z55b ?_; (case z55F => k_asm); (case z55X => k_asm); (case z55a => omega); (case z55b => omega)); intro _ _ _ _ _ _ _ _)
      k_with "assign Tuple" => (k_here; (with_reducible show wpAny _ _ (assign (Expr.Tuple _ _ _) _ (Value.ref _)) _ _ _); k_dflt (refine' unpackK ?z56F ?z56N ?z56X ?z56k ?z56c ?z56d ?z56k1 ?z56k2 ?z56k3 ?_; (case z56F => k_asm); (case z56N => k_asm); (case z56X => k_asm); (case z56k => assumption); (case z56c => exact rfl); (case z56d => exact rfl); (case z56k1 => exact rfl); (case z56k2 => exact rfl); (case z56k3 => exact rfl)); intro _ _ _; (try k_sweep))
      k_with "call type:bytes" => (k_here; (with_reducible show wpAny _ _ (call (Value.type "bytes") [Value.bytes _ _]) _ _ _); k_dflt (refine bytes_bytes ?_))
      obtain ⟨ks1, hks1, hkl1⟩ := cut_le hcut hlen4
      generalize KBy.picked _ none _ = b1 at hks1 d1
      clear hcut hlen4
      rename Obj => o1
      k_with "eval ListComp" => (k_dflt (refine ListComp_J (by k_asm) (by with_unfolding_all rfl) (by decide) (by rfl) (by decide) ?_))
      k_steps
      k_dflt (refine comp_range (by rfl) (by k_asm) (by k_asm) (by assumption) (small_one (by omega) (by omega) (by omega) (by omega)) (rangeSize_nat _ _) (by rw [sizeLine_eq]; omega) (by rfl) (by rfl) (JAa L' o1 oc2 TP TL news) ⟨_, _, _, [], rfl, by omega, .nil, rfl, (fun _ h => nomatch h)⟩ ?turn2 ?fin2)
      case turn2 =>
        intro g8 i2 zs n₂ own2 C2 D2 oC2 m2 h8 tk8 E8 hi8 hz2 hJ2 hoff2 hw2 hown2 hoC2 F8 N8
        obtain ⟨p2, t2, n2, us, rfl, hp2, hzs, hul, hus⟩ := hJ2
        (try dsimp only)
        have hTw2 := off_not hoff2 (.tail _ (.tail _ (.head _)))
        have hDT2 := off_ne hoff2 (b := D2) (.tail _ (.tail _ (.head _))) (.head _)
        have hCT2 := off_ne hoff2 (b := C2) (.tail _ (.tail _ (.head _))) (.tail _ (.head _))
        have hTr2 := all_app hT (own_ne hown2 (fun h => hTw2 (.tail _ (.tail _ h))))
        have hTLr2 : (TL, listOf vs.toArray k) ∈ news ++ own2 := List.mem_append_left _ hTL
        simp only [List.cons_append] at N8
        obtain ⟨rest2, hrest2⟩ : ∃ r, r = news ++ own2 := ⟨_, rfl⟩
        rw [← hrest2] at N8 hTr2 hTLr2
        refine tests_ce ?_
        intro qc hqc
        (try dsimp only)
        k_steps
        subst hrest2
        refine CE.go hqc (n' := (L' + 1 + 1, o1) :: (L' + 1, oc2) :: (TP, _) :: news) (by k_asm) (ce_back (news_sub (by k_asm) (fun p hp => .tail _ hp))) (off_same hoff2 (by rfl)) ⟨_, _, _, _, rfl, (by omega), ints_snoc hzs _ _, (by rw [List.length_append, hul]; rfl), snoc_all hus (menu7 _ (by assumption) (by assumption))⟩
      case fin2 =>
        rintro g8 tk8 zs n₂ ⟨p2, t2, n2, us, rfl, hp2, hzs, hul, hus⟩ D2 h8 tk8 F8 N8 hD2
        (try dsimp only)
        have hzl := IntsAre.length hzs
        have hul4 : us.length ≤ 4 := draw_len hul ‹_›
        have hDc : @Ne Nat (L' + 1 + 1) D2 := hD2 _ (.head _)
        have hDc2 : @Ne Nat (L' + 1) D2 := hD2 _ (.tail _ (.head _))
        have hDc3 : @Ne Nat TP D2 := hD2 _ (.tail _ (.tail _ (.head _)))
        k_with "exec Assign cons ListComp" => (k_dflt (refine Assign_ListComp_J (by k_asm) (by rfl) (by with_unfolding_all rfl) (by with_unfolding_all rfl) (by decide) (by rfl) (by decide) (by rfl) (by rfl) ?_))
        k_steps
        rename KBw.bInts (b1 ++ _) = _ => happ
        rename Obj.data _ = Data.cell (some (Value.bytes (b1 ++ _) _)) => d2
        rename News _ _ _ ((D2, _) :: (L' + 1 + 1, _) :: _) => N6
        rename Fr _ _ _ _ => F6
        obtain ⟨ks2, hks2, hkl2⟩ : ∃ ks, KBw.bInts (b1 ++ byteArr us) = ks ∧ ks.length ≤ 8 := ⟨_, happ, by rw [List.length_append]; omega⟩
        clear happ
        generalize b1 ++ byteArr us = b2 at hks2 d2
        rename Obj => o2
        have N6 := news_sub N6 (fun p hp => .tail _ hp)
        try clear hus
        try clear hzs
        try clear hzl
        try clear hks1
        try clear d1
        try clear N7
        try clear N8
        try clear F7
        try clear F8
        k_dflt (refine comp_tuple (by rfl) F6 N6 (marks_tup (X'.keeps F6.keep)) (Ne.symm hL218) (by rw [sizeLine_eq]; decide) (by rfl) (by rfl) (fun i ys n₁ => n₁ = (L' + 1 + 1, o2) :: (L' + 1, oc2) :: (TP, listOf [Value.ref TL, .int p2 t2].toArray n2) :: news ∧ KRows w ys ((rowsM.take i).filter (pre9 ks2))) ⟨rfl, .nil⟩ ?turn3 ?fin3)
        case turn3 =>
          intro g7 i3 ys n₁ own3 C3 D3 oC3 m3 h7 tk7 E7 hi7 hz3 hJ3 hoff3 hw3 hown3 hoC3 F7 N7
          obtain ⟨rfl, hys⟩ := hJ3
          obtain ⟨x, hx, hxx⟩ := hz3
          obtain ⟨a9, b9, t9, u9, n9, rfl, hla9, hb9, hlt⟩ := marks_look (w := w) i3 x hx
          have hrl := row_len i3 hlt
          (try dsimp only)
          simp only [List.cons_append] at N7
          obtain ⟨rest3, hrest3⟩ : ∃ r, r = news ++ own3 := ⟨_, rfl⟩
          rw [← hrest3] at N7
          refine tests_ce1 ?_
          intro qc pc hqc hpc
          (try dsimp only)
          k_steps
          all_goals subst hrest3
          · rename List.take _ ks2 = _ => hq
            rw [take_cut] at hq
            refine CE.go hqc (n' := (L' + 1 + 1, o2) :: (L' + 1, oc2) :: (TP, _) :: news) (by k_asm) (ce_back (by k_asm)) hoff3 ⟨rfl, ?_⟩
            rw [filter_snoc _ _ hlt, if_pos (show pre9 ks2 _ = true from decide_eq_true hq)]
            exact hys.snoc hla9 hb9
          · rename ¬ List.take _ ks2 = _ => hq
            rw [take_cut] at hq
            refine CE.go hpc (n' := (L' + 1 + 1, o2) :: (L' + 1, oc2) :: (TP, _) :: news) (by k_asm) (ce_back (by k_asm)) hoff3 ⟨rfl, ?_⟩
            rw [filter_snoc _ _ hlt, if_neg (show ¬ pre9 ks2 _ = true from fun h => hq (of_decide_eq_true h)), List.append_nil]
            exact hys
        case fin3 =>
          rintro g7 tk7 ys n₁ ⟨rfl, hys⟩ D3 h7 tk7 F7 N7 hD3
          (try dsimp only)
          have hEc : @Ne Nat (L' + 1 + 1) D3 := hD3 _ (.head _)
          have hEc2 : @Ne Nat (L' + 1) D3 := hD3 _ (.tail _ (.head _))
          have hEc3 : @Ne Nat TP D3 := hD3 _ (.tail _ (.tail _ (.head _)))
          rw [List.take_of_length_le (by decide)] at hys
          have hfh := List.head?_filter (p := pre9 ks2) (l := rowsM)
          generalize List.filter (pre9 ks2) rowsM = fl at hys hfh
          cases hys with
          | nil =>
            have hfn : rowsM.find? (pre9 ks2) = none := hfh.symm
            clear hfh
            k_with "compareOp Eq ref ref" => (k_dflt (refine WStop.go ?_))
            k_steps
            unfold WStop
            rename News _ _ _ _ => N5
            k_with_none
            k_with "compareOp Eq bytes bytes" => (k_dflt (refine eq_bytesK (by kba_ints) (by kba_ints) ?_))
            k_with "compareOp NotEq bytes bytes" => (k_dflt (refine ne_bytesK (by kba_ints) (by kba_ints) ?_))
            k_with "call ref" => (k_here; k_dflt (refine' Con.use ?z45kC ?z45k1 ?z45k2 ?z45k3 ?z45k4 ?z45k5 ?z45kK ?z45kd ?z45ku ?_; (case z45k2 => k_asm); (case z45k4 => k_asm); (case z45kC => first | (refine' con_draw _ _ _ _ _ _ _ _ _ _ _ _ _ ?z45a1 ?z45a2 ?z45a3 ?z45a4 ?z45a5 ?z45a6 ?z45a7; (case z45a1 => k_updF); (case z45a2 => k_mem); (case z45a3 => assumption); (case z45a4 => assumption); (case z45a5 => assumption); (case z45a6 => omega); (case z45a7 => omega))); (case z45k1 => k_asm); (case z45k3 => k_asm); (case z45k5 => k_asm); (case z45kK => first | exact rfl | assumption); (case z45kd => ktr_room); (case z45ku => ktr_units); intro _ _ _ _ _ _ _ _ _ _; (try dsimp only); (try k_fold)))
            k_with "call ref" => (k_here; k_dflt (refine' Con.use ?z46kC ?z46k1 ?z46k2 ?z46k3 ?z46k4 ?z46k5 ?z46kK ?z46kd ?z46ku ?_; (case z46k2 => k_asm); (case z46k4 => k_asm); (case z46kC => first | exact con_marks _ _ rfl); (case z46k1 => k_asm); (case z46k3 => k_asm); (case z46k5 => k_asm); (case z46kK => first | exact rfl | assumption); (case z46kd => ktr_room); (case z46ku => ktr_units); intro _ _ _ _ _ _ _ _ _ _; (try dsimp only); (try k_fold)))
            k_with "call ref" => (k_here; k_dflt (refine' Con.use ?z47kC ?z47k1 ?z47k2 ?z47k3 ?z47k4 ?z47k5 ?z47kK ?z47kd ?z47ku ?_; (case z47k2 => k_asm); (case z47k4 => k_asm); (case z47kC => first | (refine' con_unmarked_none _ _ _ _ _ ?z47a1 ?z47a2 ?z47a3; (case z47a1 => assumption); (case z47a2 => omega); (case z47a3 => assumption))); (case z47k1 => k_asm); (case z47k3 => k_asm); (case z47k5 => k_asm); (case z47kK => first | exact rfl | assumption); (case z47kd => ktr_room); (case z47ku => ktr_units); intro _ _ _ _ _ _ _; (try dsimp only); (try k_fold)))
            k_with "call ref" => (k_here; k_dflt (refine' Con.use ?z48kC ?z48k1 ?z48k2 ?z48k3 ?z48k4 ?z48k5 ?z48kK ?z48kd ?z48ku ?_; (case z48k2 => k_asm); (case z48k4 => k_asm); (case z48kC => first | (refine' con_unmarked_some _ _ _ _ _ _ ?z48a1 ?z48a2 ?z48a3; (case z48a1 => assumption); (case z48a2 => omega); (case z48a3 => assumption))); (case z48k1 => k_asm); (case z48k3 => k_asm); (case z48k5 => k_asm); (case z48kK => first | exact rfl | assumption); (case z48kd => ktr_room); (case z48ku => ktr_units); intro _ _ _ _ _ _ _ _ _ _; (try dsimp only); (try k_fold)))
            k_with "call ref" => (k_here; k_dflt (refine' Con.use ?z49kC ?z49k1 ?z49k2 ?z49k3 ?z49k4 ?z49k5 ?z49kK ?z49kd ?z49ku ?_; (case z49k2 => k_asm); (case z49k4 => k_asm); (case z49kC => first | (refine' con_sniffed_none _ _ _ _ _ ?z49a1 ?z49a2 ?z49a3; (case z49a1 => assumption); (case z49a2 => omega); (case z49a3 => assumption))); (case z49k1 => k_asm); (case z49k3 => k_asm); (case z49k5 => k_asm); (case z49kK => first | exact rfl | assumption); (case z49kd => ktr_room); (case z49ku => ktr_units); intro _ _ _ _; (try dsimp only); (try k_fold)))
            k_with "call ref" => (k_here; k_dflt (refine' Con.use ?z50kC ?z50k1 ?z50k2 ?z50k3 ?z50k4 ?z50k5 ?z50kK ?z50kd ?z50ku ?_; (case z50k2 => k_asm); (case z50k4 => k_asm); (case z50kC => first | (refine' con_sniffed_some _ _ _ _ _ _ ?z50a1 ?z50a2 ?z50a3; (case z50a1 => assumption); (case z50a2 => omega); (case z50a3 => assumption))); (case z50k1 => k_asm); (case z50k3 => k_asm); (case z50k5 => k_asm); (case z50kK => first | exact rfl | assumption); (case z50kd => ktr_room); (case z50ku => ktr_units); intro _ _ _ _ _; (try dsimp only); (try k_fold)))
            k_with "call ref" => (k_here; k_dflt (refine' Con.use ?z51kC ?z51k1 ?z51k2 ?z51k3 ?z51k4 ?z51k5 ?z51kK ?z51kd ?z51ku ?_; (case z51k2 => k_asm); (case z51k4 => k_asm); (case z51kC => first | exact con_mark_of _ _ _ _); (case z51k1 => k_asm); (case z51k3 => k_asm); (case z51k5 => k_asm); (case z51kK => first | exact rfl | assumption); (case z51kd => ktr_room); (case z51ku => ktr_units); intro _ _ _ _ _ _ _; (try dsimp only); (try k_fold)))
            k_with "compareOp NotEq ref ref" => (k_here; (with_reducible show wpAny _ _ (compareOp CmpOp.NotEq (Value.ref _) (Value.ref _)) _ _ _); k_dflt (refine' ne_nil0 ?z52N ?z52a ?z52b ?z52u ?_; (case z52N => k_asm); (case z52a => k_mem); (case z52b => k_mem); (case z52u => ke_room)))
            k_with "compareOp NotEq ref ref" => (k_here; (with_reducible show wpAny _ _ (compareOp CmpOp.NotEq (Value.ref _) (Value.ref _)) _ _ _); k_dflt (refine' ne_nilK ?z53N ?z53a ?z53b ?z53u ?_; (case z53N => k_asm); (case z53a => k_mem); (case z53b => k_mem); (case z53u => ke_room)))
            k_with "subscriptTail" => (k_here; (with_reducible show wpAny _ _ (subscriptTail _ _ (Value.ref _) (Value.int _ _)) _ _ _); k_dflt (refine' item_K ?z54F ?z54X ?z54l ?z54a ?z54b ?z54c ?z54d ?_; (case z54F => k_asm); (case z54X => k_asm); (case z54l => assumption); (case z54a => decide); (case z54b => simp); (case z54c => decide); (case z54d => rfl)))
            k_with "subscriptTail" => (k_here; (with_reducible show wpAny _ _ (subscriptTail _ _ (Value.ref _) (Value.int _ _)) _ _ _); k_dflt (refine' item_marks ?z55F ?z55X ?z55a ?z55b ?_; (case z55F => k_asm); (case z55X => k_asm); (case z55a => omega); (case z55b => omega)); intro _ _ _ _ _ _ _ _)
            k_with "assign Tuple" => (k_here; (with_reducible show wpAny _ _ (assign (Expr.Tuple _ _ _) _ (Value.ref _)) _ _ _); k_dflt (refine' unpackK ?z56F ?z56N ?z56X ?z56k ?z56c ?z56d ?z56k1 ?z56k2 ?z56k3 ?_; (case z56F => k_asm); (case z56N => k_asm); (case z56X => k_asm); (case z56k => assumption); (case z56c => exact rfl); (case z56d => exact rfl); (case z56k1 => exact rfl); (case z56k2 => exact rfl); (case z56k3 => exact rfl)); intro _ _ _; (try k_sweep))
            k_with "call type:bytes" => (k_here; (with_reducible show wpAny _ _ (call (Value.type "bytes") [Value.bytes _ _]) _ _ _); k_dflt (refine bytes_bytes ?_))
            k_dflt (refine eq_pairN (by k_asm) (by k_mem) (by k_mem) hks2 hks2 (by ke_room) ?_)
            k_steps
            rename KBw.bInts _ = Option.getD _ _ => hb0
            rw [utf9 hb0]
            exact lv.go (hret p2 _ _ hp2) (by k_asm) (news_sub (by k_asm) (sub_tpn (x := [_, _, _, _, _, _, _])))
          | cons hl4 hb4 hr4 =>
            rename_i a4 b4 t4 u4 n4 vs4 r4 rs4
            have hfs : rowsM.find? (pre9 ks2) = some r4 := hfh.symm
            have hr4l : r4.1.length ≤ 4 := rows_len4 r4 (List.mem_of_find?_eq_some hfs)
            clear hfh
            k_with "exec If Compare cons nil" => (k_dflt (refine WStop.go ?_))
            k_steps
            unfold WStop
            k_with_none
            k_with "compareOp Eq bytes bytes" => (k_dflt (refine eq_bytesK (by kba_ints) (by kba_ints) ?_))
            k_with "compareOp NotEq bytes bytes" => (k_dflt (refine ne_bytesK (by kba_ints) (by kba_ints) ?_))
            k_with "call ref" => (k_here; k_dflt (refine' Con.use ?z45kC ?z45k1 ?z45k2 ?z45k3 ?z45k4 ?z45k5 ?z45kK ?z45kd ?z45ku ?_; (case z45k2 => k_asm); (case z45k4 => k_asm); (case z45kC => first | (refine' con_draw _ _ _ _ _ _ _ _ _ _ _ _ _ ?z45a1 ?z45a2 ?z45a3 ?z45a4 ?z45a5 ?z45a6 ?z45a7; (case z45a1 => k_updF); (case z45a2 => k_mem); (case z45a3 => assumption); (case z45a4 => assumption); (case z45a5 => assumption); (case z45a6 => omega); (case z45a7 => omega))); (case z45k1 => k_asm); (case z45k3 => k_asm); (case z45k5 => k_asm); (case z45kK => first | exact rfl | assumption); (case z45kd => ktr_room); (case z45ku => ktr_units); intro _ _ _ _ _ _ _ _ _ _; (try dsimp only); (try k_fold)))
            k_with "call ref" => (k_here; k_dflt (refine' Con.use ?z46kC ?z46k1 ?z46k2 ?z46k3 ?z46k4 ?z46k5 ?z46kK ?z46kd ?z46ku ?_; (case z46k2 => k_asm); (case z46k4 => k_asm); (case z46kC => first | exact con_marks _ _ rfl); (case z46k1 => k_asm); (case z46k3 => k_asm); (case z46k5 => k_asm); (case z46kK => first | exact rfl | assumption); (case z46kd => ktr_room); (case z46ku => ktr_units); intro _ _ _ _ _ _ _ _ _ _; (try dsimp only); (try k_fold)))
            k_with "call ref" => (k_here; k_dflt (refine' Con.use ?z47kC ?z47k1 ?z47k2 ?z47k3 ?z47k4 ?z47k5 ?z47kK ?z47kd ?z47ku ?_; (case z47k2 => k_asm); (case z47k4 => k_asm); (case z47kC => first | (refine' con_unmarked_none _ _ _ _ _ ?z47a1 ?z47a2 ?z47a3; (case z47a1 => assumption); (case z47a2 => omega); (case z47a3 => assumption))); (case z47k1 => k_asm); (case z47k3 => k_asm); (case z47k5 => k_asm); (case z47kK => first | exact rfl | assumption); (case z47kd => ktr_room); (case z47ku => ktr_units); intro _ _ _ _ _ _ _; (try dsimp only); (try k_fold)))
            k_with "call ref" => (k_here; k_dflt (refine' Con.use ?z48kC ?z48k1 ?z48k2 ?z48k3 ?z48k4 ?z48k5 ?z48kK ?z48kd ?z48ku ?_; (case z48k2 => k_asm); (case z48k4 => k_asm); (case z48kC => first | (refine' con_unmarked_some _ _ _ _ _ _ ?z48a1 ?z48a2 ?z48a3; (case z48a1 => assumption); (case z48a2 => omega); (case z48a3 => assumption))); (case z48k1 => k_asm); (case z48k3 => k_asm); (case z48k5 => k_asm); (case z48kK => first | exact rfl | assumption); (case z48kd => ktr_room); (case z48ku => ktr_units); intro _ _ _ _ _ _ _ _ _ _; (try dsimp only); (try k_fold)))
            k_with "call ref" => (k_here; k_dflt (refine' Con.use ?z49kC ?z49k1 ?z49k2 ?z49k3 ?z49k4 ?z49k5 ?z49kK ?z49kd ?z49ku ?_; (case z49k2 => k_asm); (case z49k4 => k_asm); (case z49kC => first | (refine' con_sniffed_none _ _ _ _ _ ?z49a1 ?z49a2 ?z49a3; (case z49a1 => assumption); (case z49a2 => omega); (case z49a3 => assumption))); (case z49k1 => k_asm); (case z49k3 => k_asm); (case z49k5 => k_asm); (case z49kK => first | exact rfl | assumption); (case z49kd => ktr_room); (case z49ku => ktr_units); intro _ _ _ _; (try dsimp only); (try k_fold)))
            k_with "call ref" => (k_here; k_dflt (refine' Con.use ?z50kC ?z50k1 ?z50k2 ?z50k3 ?z50k4 ?z50k5 ?z50kK ?z50kd ?z50ku ?_; (case z50k2 => k_asm); (case z50k4 => k_asm); (case z50kC => first | (refine' con_sniffed_some _ _ _ _ _ _ ?z50a1 ?z50a2 ?z50a3; (case z50a1 => assumption); (case z50a2 => omega); (case z50a3 => assumption))); (case z50k1 => k_asm); (case z50k3 => k_asm); (case z50k5 => k_asm); (case z50kK => first | exact rfl | assumption); (case z50kd => ktr_room); (case z50ku => ktr_units); intro _ _ _ _ _; (try dsimp only); (try k_fold)))
            k_with "call ref" => (k_here; k_dflt (refine' Con.use ?z51kC ?z51k1 ?z51k2 ?z51k3 ?z51k4 ?z51k5 ?z51kK ?z51kd ?z51ku ?_; (case z51k2 => k_asm); (case z51k4 => k_asm); (case z51kC => first | exact con_mark_of _ _ _ _); (case z51k1 => k_asm); (case z51k3 => k_asm); (case z51k5 => k_asm); (case z51kK => first | exact rfl | assumption); (case z51kd => ktr_room); (case z51ku => ktr_units); intro _ _ _ _ _ _ _; (try dsimp only); (try k_fold)))
            k_with "compareOp NotEq ref ref" => (k_here; (with_reducible show wpAny _ _ (compareOp CmpOp.NotEq (Value.ref _) (Value.ref _)) _ _ _); k_dflt (refine' ne_nil0 ?z52N ?z52a ?z52b ?z52u ?_; (case z52N => k_asm); (case z52a => k_mem); (case z52b => k_mem); (case z52u => ke_room)))
            k_with "compareOp NotEq ref ref" => (k_here; (with_reducible show wpAny _ _ (compareOp CmpOp.NotEq (Value.ref _) (Value.ref _)) _ _ _); k_dflt (refine' ne_nilK ?z53N ?z53a ?z53b ?z53u ?_; (case z53N => k_asm); (case z53a => k_mem); (case z53b => k_mem); (case z53u => ke_room)))
            k_with "subscriptTail" => (k_here; (with_reducible show wpAny _ _ (subscriptTail _ _ (Value.ref _) (Value.int _ _)) _ _ _); k_dflt (refine' item_K ?z54F ?z54X ?z54l ?z54a ?z54b ?z54c ?z54d ?_; (case z54F => k_asm); (case z54X => k_asm); (case z54l => assumption); (case z54a => decide); (case z54b => simp); (case z54c => decide); (case z54d => rfl)))
            k_with "subscriptTail" => (k_here; (with_reducible show wpAny _ _ (subscriptTail _ _ (Value.ref _) (Value.int _ _)) _ _ _); k_dflt (refine' item_marks ?z55F ?z55X ?z55a ?z55b ?_; (case z55F => k_asm); (case z55X => k_asm); (case z55a => omega); (case z55b => omega)); intro _ _ _ _ _ _ _ _)
            k_with "assign Tuple" => (k_here; (with_reducible show wpAny _ _ (assign (Expr.Tuple _ _ _) _ (Value.ref _)) _ _ _); k_dflt (refine' unpackK ?z56F ?z56N ?z56X ?z56k ?z56c ?z56d ?z56k1 ?z56k2 ?z56k3 ?_; (case z56F => k_asm); (case z56N => k_asm); (case z56X => k_asm); (case z56k => assumption); (case z56c => exact rfl); (case z56d => exact rfl); (case z56k1 => exact rfl); (case z56k2 => exact rfl); (case z56k3 => exact rfl)); intro _ _ _; (try k_sweep))
            k_with "call type:bytes" => (k_here; (with_reducible show wpAny _ _ (call (Value.type "bytes") [Value.bytes _ _]) _ _ _); k_dflt (refine bytes_bytes ?_))
            refine wpAny_mono (Q := fun f s' => MkD g' L' TP TL p2 t2 n2 o2 oc2 ks2 r4 news ⟨h', gg, dd, tk0, oo⟩ f s') ?first ?rest fun _ _ x => x
            case first =>
              k_steps
              · rename (_ == _) = true => hq
                exact ⟨rfl, _, _, _, _, _, _, _, rfl, (by k_asm), (by first | walk_at "kp" | (intro y hy; simp only [List.mem_cons, not_or, List.not_mem_nil, not_false_eq_true, and_true] at hy; by_cases hq1 : y = Str.ofString "due"; (· subst hq1; rfl); simp only [setN, setO, hy, hq1, if_false])), news_sub (by k_asm) (sub_due (x := [_, _, _]) (y := [])), hks2.trans (if_pos hq).symm⟩
              · rename (_ == _) = false => hq
                rename KBw.bInts (KBy.picked b2 (some _) none) = _ => hcut
                rw [drop_cut] at hcut
                exact ⟨rfl, _, _, _, _, _, _, _, rfl, (by k_asm), (by first | walk_at "kp" | (intro y hy; simp only [List.mem_cons, not_or, List.not_mem_nil, not_false_eq_true, and_true] at hy; by_cases hq1 : y = Str.ofString "due"; (· subst hq1; rfl); simp only [setN, setO, hy, hq1, if_false])), news_sub (by k_asm) (sub_due (x := [_, _, _]) (y := [])), hcut.trans (if_neg (fun h => absurd (hq.symm.trans h) (by decide))).symm⟩
            case rest =>
              rintro f s' ⟨rfl, h5, tk5, m5, Du, t5, u5, b5, rfl, F5, hkp5, N5, hb5⟩
              obtain ⟨x1, x2, x3, x4, rfl⟩ := hkp5.shape4
              try clear N7
              try clear F7
              try clear hkp5
              try clear hD3
              k_with "compareOp Eq ref ref" => (k_dflt (refine WStop.go ?_))
              k_steps
              · unfold WStop
                rename KBw.bInts _ = ite _ _ _ => hb6
                k_with_none
                k_with "compareOp Eq bytes bytes" => (k_dflt (refine eq_bytesK (by kba_ints) (by kba_ints) ?_))
                k_with "compareOp NotEq bytes bytes" => (k_dflt (refine ne_bytesK (by kba_ints) (by kba_ints) ?_))
                k_with "call ref" => (k_here; k_dflt (refine' Con.use ?z45kC ?z45k1 ?z45k2 ?z45k3 ?z45k4 ?z45k5 ?z45kK ?z45kd ?z45ku ?_; (case z45k2 => k_asm); (case z45k4 => k_asm); (case z45kC => first | (refine' con_draw _ _ _ _ _ _ _ _ _ _ _ _ _ ?z45a1 ?z45a2 ?z45a3 ?z45a4 ?z45a5 ?z45a6 ?z45a7; (case z45a1 => k_updF); (case z45a2 => k_mem); (case z45a3 => assumption); (case z45a4 => assumption); (case z45a5 => assumption); (case z45a6 => omega); (case z45a7 => omega))); (case z45k1 => k_asm); (case z45k3 => k_asm); (case z45k5 => k_asm); (case z45kK => first | exact rfl | assumption); (case z45kd => ktr_room); (case z45ku => ktr_units); intro _ _ _ _ _ _ _ _ _ _; (try dsimp only); (try k_fold)))
                k_with "call ref" => (k_here; k_dflt (refine' Con.use ?z46kC ?z46k1 ?z46k2 ?z46k3 ?z46k4 ?z46k5 ?z46kK ?z46kd ?z46ku ?_; (case z46k2 => k_asm); (case z46k4 => k_asm); (case z46kC => first | exact con_marks _ _ rfl); (case z46k1 => k_asm); (case z46k3 => k_asm); (case z46k5 => k_asm); (case z46kK => first | exact rfl | assumption); (case z46kd => ktr_room); (case z46ku => ktr_units); intro _ _ _ _ _ _ _ _ _ _; (try dsimp only); (try k_fold)))
                k_with "call ref" => (k_here; k_dflt (refine' Con.use ?z47kC ?z47k1 ?z47k2 ?z47k3 ?z47k4 ?z47k5 ?z47kK ?z47kd ?z47ku ?_; (case z47k2 => k_asm); (case z47k4 => k_asm); (case z47kC => first | (refine' con_unmarked_none _ _ _ _ _ ?z47a1 ?z47a2 ?z47a3; (case z47a1 => assumption); (case z47a2 => omega); (case z47a3 => assumption))); (case z47k1 => k_asm); (case z47k3 => k_asm); (case z47k5 => k_asm); (case z47kK => first | exact rfl | assumption); (case z47kd => ktr_room); (case z47ku => ktr_units); intro _ _ _ _ _ _ _; (try dsimp only); (try k_fold)))
                k_with "call ref" => (k_here; k_dflt (refine' Con.use ?z48kC ?z48k1 ?z48k2 ?z48k3 ?z48k4 ?z48k5 ?z48kK ?z48kd ?z48ku ?_; (case z48k2 => k_asm); (case z48k4 => k_asm); (case z48kC => first | (refine' con_unmarked_some _ _ _ _ _ _ ?z48a1 ?z48a2 ?z48a3; (case z48a1 => assumption); (case z48a2 => omega); (case z48a3 => assumption))); (case z48k1 => k_asm); (case z48k3 => k_asm); (case z48k5 => k_asm); (case z48kK => first | exact rfl | assumption); (case z48kd => ktr_room); (case z48ku => ktr_units); intro _ _ _ _ _ _ _ _ _ _; (try dsimp only); (try k_fold)))
                k_with "call ref" => (k_here; k_dflt (refine' Con.use ?z49kC ?z49k1 ?z49k2 ?z49k3 ?z49k4 ?z49k5 ?z49kK ?z49kd ?z49ku ?_; (case z49k2 => k_asm); (case z49k4 => k_asm); (case z49kC => first | (refine' con_sniffed_none _ _ _ _ _ ?z49a1 ?z49a2 ?z49a3; (case z49a1 => assumption); (case z49a2 => omega); (case z49a3 => assumption))); (case z49k1 => k_asm); (case z49k3 => k_asm); (case z49k5 => k_asm); (case z49kK => first | exact rfl | assumption); (case z49kd => ktr_room); (case z49ku => ktr_units); intro _ _ _ _; (try dsimp only); (try k_fold)))
                k_with "call ref" => (k_here; k_dflt (refine' Con.use ?z50kC ?z50k1 ?z50k2 ?z50k3 ?z50k4 ?z50k5 ?z50kK ?z50kd ?z50ku ?_; (case z50k2 => k_asm); (case z50k4 => k_asm); (case z50kC => first | (refine' con_sniffed_some _ _ _ _ _ _ ?z50a1 ?z50a2 ?z50a3; (case z50a1 => assumption); (case z50a2 => omega); (case z50a3 => assumption))); (case z50k1 => k_asm); (case z50k3 => k_asm); (case z50k5 => k_asm); (case z50kK => first | exact rfl | assumption); (case z50kd => ktr_room); (case z50ku => ktr_units); intro _ _ _ _ _; (try dsimp only); (try k_fold)))
                k_with "call ref" => (k_here; k_dflt (refine' Con.use ?z51kC ?z51k1 ?z51k2 ?z51k3 ?z51k4 ?z51k5 ?z51kK ?z51kd ?z51ku ?_; (case z51k2 => k_asm); (case z51k4 => k_asm); (case z51kC => first | exact con_mark_of _ _ _ _); (case z51k1 => k_asm); (case z51k3 => k_asm); (case z51k5 => k_asm); (case z51kK => first | exact rfl | assumption); (case z51kd => ktr_room); (case z51ku => ktr_units); intro _ _ _ _ _ _ _; (try dsimp only); (try k_fold)))
                k_with "compareOp NotEq ref ref" => (k_here; (with_reducible show wpAny _ _ (compareOp CmpOp.NotEq (Value.ref _) (Value.ref _)) _ _ _); k_dflt (refine' ne_nil0 ?z52N ?z52a ?z52b ?z52u ?_; (case z52N => k_asm); (case z52a => k_mem); (case z52b => k_mem); (case z52u => ke_room)))
                k_with "compareOp NotEq ref ref" => (k_here; (with_reducible show wpAny _ _ (compareOp CmpOp.NotEq (Value.ref _) (Value.ref _)) _ _ _); k_dflt (refine' ne_nilK ?z53N ?z53a ?z53b ?z53u ?_; (case z53N => k_asm); (case z53a => k_mem); (case z53b => k_mem); (case z53u => ke_room)))
                k_with "subscriptTail" => (k_here; (with_reducible show wpAny _ _ (subscriptTail _ _ (Value.ref _) (Value.int _ _)) _ _ _); k_dflt (refine' item_K ?z54F ?z54X ?z54l ?z54a ?z54b ?z54c ?z54d ?_; (case z54F => k_asm); (case z54X => k_asm); (case z54l => assumption); (case z54a => decide); (case z54b => simp); (case z54c => decide); (case z54d => rfl)))
                k_with "subscriptTail" => (k_here; (with_reducible show wpAny _ _ (subscriptTail _ _ (Value.ref _) (Value.int _ _)) _ _ _); k_dflt (refine' item_marks ?z55F ?z55X ?z55a ?z55b ?_; (case z55F => k_asm); (case z55X => k_asm); (case z55a => omega); (case z55b => omega)); intro _ _ _ _ _ _ _ _)
                k_with "assign Tuple" => (k_here; (with_reducible show wpAny _ _ (assign (Expr.Tuple _ _ _) _ (Value.ref _)) _ _ _); k_dflt (refine' unpackK ?z56F ?z56N ?z56X ?z56k ?z56c ?z56d ?z56k1 ?z56k2 ?z56k3 ?_; (case z56F => k_asm); (case z56N => k_asm); (case z56X => k_asm); (case z56k => assumption); (case z56c => exact rfl); (case z56d => exact rfl); (case z56k1 => exact rfl); (case z56k2 => exact rfl); (case z56k3 => exact rfl)); intro _ _ _; (try k_sweep))
                k_with "call type:bytes" => (k_here; (with_reducible show wpAny _ _ (call (Value.type "bytes") [Value.bytes _ _]) _ _ _); k_dflt (refine bytes_bytes ?_))
                k_dflt (refine eq_pairS (by k_asm) (by k_mem) (by k_mem) hb6 hb5 (by ke_room) ?_)
                k_steps
                rename KBw.bInts _ = Option.getD _ _ => hb0
                rw [utf9 hb0]
                exact lv.go (hret p2 _ _ hp2) (by k_asm) (news_sub (by k_asm) (sub_tpn (x := [_, _, _, _, _])))
              · rename (_ == _) = false => hq
                rw [beq_self_eq_true] at hq
                cases hq
end Nac
-- PGE
example : True := by w_top off; k_with_none; trivial
section
namespace Nge
open Nac
theorem menu3 (v : Int) (h0 : 0 ≤ v) (h1 : v < 3) : 0 ≤ ([0, 65, 9] : List Int).getD v.toNat 0 ∧ ([0, 65, 9] : List Int).getD v.toNat 0 < 256 := by
  exact int_cases (P := fun v => 0 ≤ ([0, 65, 9] : List Int).getD v.toNat 0 ∧ ([0, 65, 9] : List Int).getD v.toNat 0 < 256) 3 (by decide) h0 h1
theorem some12 (v : Int) (h0 : 0 ≤ v) (h1 : v < 12) : 0 ≤ ([65, 0, 8364, 66, 65536, 1, 55296, 1114112, 255, 256, 122, 1114111] : List Int).getD v.toNat 0 ∧ ([65, 0, 8364, 66, 65536, 1, 55296, 1114112, 255, 256, 122, 1114111] : List Int).getD v.toNat 0 ≤ 2000000 := by
  exact int_cases (P := fun v => 0 ≤ ([65, 0, 8364, 66, 65536, 1, 55296, 1114112, 255, 256, 122, 1114111] : List Int).getD v.toNat 0 ∧ ([65, 0, 8364, 66, 65536, 1, 55296, 1114112, 255, 256, 122, 1114111] : List Int).getD v.toNat 0 ≤ 2000000) 12 (by decide) h0 h1
theorem con_guessed_none (w : World) (news : Led) (b : Array UInt8) (t u : Tok) (ks : List Int) (many : Int) (hb : KBw.bInts b = ks) (hlen : ks.length ≤ 100) (h0 : 0 ≤ many) (h1 : many ≤ 64) (hg : guessS (ks.take (clipAt ks.length (many.fdiv 4 * 4))) = none) : Con w 201 [.bytes b t, .int many u] 100 1000 news (fun k => k .none news) :=
  Con.conv (con_guessed w news b t u ks many hb hlen h0 h1) (fun _ h => h) fun k _ h => ⟨fun x e => (by rw [hg] at e; cases e), fun _ => h⟩
theorem con_guessed_some (w : World) (news : Led) (b : Array UInt8) (t u : Tok) (ks : List Int) (many : Int) (hb : KBw.bInts b = ks) (hlen : ks.length ≤ 100) (h0 : 0 ≤ many) (h1 : many ≤ 64) (x : String) (hg : guessS (ks.take (clipAt ks.length (many.fdiv 4 * 4))) = some x) : Con w 201 [.bytes b t, .int many u] 100 1000 news (fun k => ∀ t, k (.str (Str.ofString x) t) news) :=
  Con.conv (con_guessed w news b t u ks many hb hlen h0 h1) (fun _ h => h) fun k _ h => ⟨fun y e => (by rw [hg] at e; obtain rfl := Option.some.inj e; exact h), fun e => (by rw [hg] at e; cases e)⟩
theorem con_guess_none (w : World) (news : Led) (b : Array UInt8) (t u : Tok) (ks : List Int) (many : Int) (hb : KBw.bInts b = ks) (hlen : ks.length ≤ 100) (h0 : 0 ≤ many) (h1 : many ≤ 64) (hg : guessS (ks.take (clipAt ks.length (many.fdiv 4 * 4))) = none) : Con w 283 [.bytes b t, .int many u] 100 1000 news (fun k => k .none news) :=
  Con.conv (con_guess w news b t u ks many hb hlen h0 h1) (fun _ h => h) fun k _ h => ⟨fun x e => (by rw [hg] at e; cases e), fun _ => h⟩
theorem con_guess_some (w : World) (news : Led) (b : Array UInt8) (t u : Tok) (ks : List Int) (many : Int) (hb : KBw.bInts b = ks) (hlen : ks.length ≤ 100) (h0 : 0 ≤ many) (h1 : many ≤ 64) (x : String) (hg : guessS (ks.take (clipAt ks.length (many.fdiv 4 * 4))) = some x) : Con w 283 [.bytes b t, .int many u] 100 1000 news (fun k => ∀ t, k (.str (Str.ofString x) t) news) :=
  Con.conv (con_guess w news b t u ks many hb hlen h0 h1) (fun _ h => h) fun k _ h => ⟨fun y e => (by rw [hg] at e; obtain rfl := Option.some.inj e; exact h), fun e => (by rw [hg] at e; cases e)⟩
theorem con_guessed1_none (w : World) (news : Led) (b : Array UInt8) (t : Tok) (ks : List Int) (hb : KBw.bInts b = ks) (hlen : ks.length ≤ 100) (hg : guessS (ks.take (clipAt ks.length ((64 : Int).fdiv 4 * 4))) = none) : Con w 201 [.bytes b t] 100 1000 news (fun k => k .none news) :=
  Con.conv (con_guessed1 w news b t ks hb hlen) (fun _ h => h) fun k _ h => ⟨fun x e => (by rw [hg] at e; cases e), fun _ => h⟩
theorem con_guessed1_some (w : World) (news : Led) (b : Array UInt8) (t : Tok) (ks : List Int) (hb : KBw.bInts b = ks) (hlen : ks.length ≤ 100) (x : String) (hg : guessS (ks.take (clipAt ks.length ((64 : Int).fdiv 4 * 4))) = some x) : Con w 201 [.bytes b t] 100 1000 news (fun k => ∀ t, k (.str (Str.ofString x) t) news) :=
  Con.conv (con_guessed1 w news b t ks hb hlen) (fun _ h => h) fun k _ h => ⟨fun y e => (by rw [hg] at e; obtain rfl := Option.some.inj e; exact h), fun e => (by rw [hg] at e; cases e)⟩
theorem le_name {x y : Int} (_ : x ≤ y) : ∃ z, z = x := ⟨x, rfl⟩
section
variable {prog : Program} {w : World} {A : Around} {E : Value → Shared → Prop} {s : Shared} {value slice : PySem.Expr} {h₀ : Heap} {L l : Addr} {news : Led} {k : Int} {u : Tok} {n : Nat} {Q : Value → Shared → Prop}
theorem item_ord {t0 t1 : Tok} (N : News h₀ L s.heap news) (hm : (l, listOf #[.str (Str.ofString "be") t0, .str (Str.ofString "le") t1] n) ∈ news) (h0 : 0 ≤ k) (h1 : k < 2) (h : ∀ b u, Q (.str (Str.ofString (ordS b)) u) s)
    (hs : subscripted slice false (.ref l) (.int k u) = operate [.ref l, .int k u] (getItem (.ref l) (.int k u)) := by with_unfolding_all rfl) :
    wpAny (model prog w) A (subscriptTail value slice (.ref l) (.int k u)) Q E s := by
  have e : k = 0 ∨ k = 1 := by omega
  rcases e with rfl | rfl
  · exact kba_turn (value' := PySem.Expr.Name (PySem.Str.ofString "_") ⟨0, 0, 0, 0⟩) (fun _ => rfl) (PyProof.Rows.item_list (N.isList hm) (by decide) (by decide) (x := .str (Str.ofString (ordS true)) t0) rfl (h true t0) hs (fun _ => rfl))
  · exact kba_turn (value' := PySem.Expr.Name (PySem.Str.ofString "_") ⟨0, 0, 0, 0⟩) (fun _ => rfl) (PyProof.Rows.item_list (N.isList hm) (by decide) (by decide) (x := .str (Str.ofString (ordS false)) t1) rfl (h false t1) hs (fun _ => rfl))
theorem item_size {t0 t1 : Tok} (N : News h₀ L s.heap news) (hm : (l, listOf #[.int 2 t0, .int 4 t1] n) ∈ news) (h0 : 0 ≤ k) (h1 : k < 2) (h : ∀ (n : Nat) u, n ≤ 4 → Q (.int (n : Int) u) s)
    (hs : subscripted slice false (.ref l) (.int k u) = operate [.ref l, .int k u] (getItem (.ref l) (.int k u)) := by with_unfolding_all rfl) :
    wpAny (model prog w) A (subscriptTail value slice (.ref l) (.int k u)) Q E s := by
  have e : k = 0 ∨ k = 1 := by omega
  rcases e with rfl | rfl
  · exact kba_turn (value' := PySem.Expr.Name (PySem.Str.ofString "_") ⟨0, 0, 0, 0⟩) (fun _ => rfl) (PyProof.Rows.item_list (N.isList hm) (by decide) (by decide) (x := .int ((2 : Nat) : Int) t0) rfl (h 2 t0 (by decide)) hs (fun _ => rfl))
  · exact kba_turn (value' := PySem.Expr.Name (PySem.Str.ofString "_") ⟨0, 0, 0, 0⟩) (fun _ => rfl) (PyProof.Rows.item_list (N.isList hm) (by decide) (by decide) (x := .int ((4 : Nat) : Int) t1) rfl (h 4 t1 (by decide)) hs (fun _ => rfl))
theorem item_many {t0 t1 t2 t3 t4 t5 t6 : Tok} (N : News h₀ L s.heap news) (hm : (l, listOf #[.int 64 t0, .int 4 t1, .int 8 t2, .int 3 t3, .int 0 t4, .int 17 t5, .int 12 t6] n) ∈ news) (h0 : 0 ≤ k) (h1 : k < 7) (h : ∀ (x : Int) u, 0 ≤ x → x ≤ 64 → Q (.int x u) s)
    (hs : subscripted slice false (.ref l) (.int k u) = operate [.ref l, .int k u] (getItem (.ref l) (.int k u)) := by with_unfolding_all rfl) :
    wpAny (model prog w) A (subscriptTail value slice (.ref l) (.int k u)) Q E s := by
  have e : k = 0 ∨ k = 1 ∨ k = 2 ∨ k = 3 ∨ k = 4 ∨ k = 5 ∨ k = 6 := int_cases (P := fun k => k = 0 ∨ k = 1 ∨ k = 2 ∨ k = 3 ∨ k = 4 ∨ k = 5 ∨ k = 6) 7 (by decide) h0 h1
  rcases e with rfl | rfl | rfl | rfl | rfl | rfl | rfl
  · exact kba_turn (value' := PySem.Expr.Name (PySem.Str.ofString "_") ⟨0, 0, 0, 0⟩) (fun _ => rfl) (PyProof.Rows.item_list (N.isList hm) (by decide) (by decide) (x := .int 64 t0) rfl (h _ _ (by decide) (by decide)) hs (fun _ => rfl))
  · exact kba_turn (value' := PySem.Expr.Name (PySem.Str.ofString "_") ⟨0, 0, 0, 0⟩) (fun _ => rfl) (PyProof.Rows.item_list (N.isList hm) (by decide) (by decide) (x := .int 4 t1) rfl (h _ _ (by decide) (by decide)) hs (fun _ => rfl))
  · exact kba_turn (value' := PySem.Expr.Name (PySem.Str.ofString "_") ⟨0, 0, 0, 0⟩) (fun _ => rfl) (PyProof.Rows.item_list (N.isList hm) (by decide) (by decide) (x := .int 8 t2) rfl (h _ _ (by decide) (by decide)) hs (fun _ => rfl))
  · exact kba_turn (value' := PySem.Expr.Name (PySem.Str.ofString "_") ⟨0, 0, 0, 0⟩) (fun _ => rfl) (PyProof.Rows.item_list (N.isList hm) (by decide) (by decide) (x := .int 3 t3) rfl (h _ _ (by decide) (by decide)) hs (fun _ => rfl))
  · exact kba_turn (value' := PySem.Expr.Name (PySem.Str.ofString "_") ⟨0, 0, 0, 0⟩) (fun _ => rfl) (PyProof.Rows.item_list (N.isList hm) (by decide) (by decide) (x := .int 0 t4) rfl (h _ _ (by decide) (by decide)) hs (fun _ => rfl))
  · exact kba_turn (value' := PySem.Expr.Name (PySem.Str.ofString "_") ⟨0, 0, 0, 0⟩) (fun _ => rfl) (PyProof.Rows.item_list (N.isList hm) (by decide) (by decide) (x := .int 17 t5) rfl (h _ _ (by decide) (by decide)) hs (fun _ => rfl))
  · exact kba_turn (value' := PySem.Expr.Name (PySem.Str.ofString "_") ⟨0, 0, 0, 0⟩) (fun _ => rfl) (PyProof.Rows.item_list (N.isList hm) (by decide) (by decide) (x := .int 12 t6) rfl (h _ _ (by decide) (by decide)) hs (fun _ => rfl))
end
inductive JEa (L' : Addr) (oc1 : Obj) (TP : Addr) (TL : Addr) (news : Led) (mb : Str → Option Value) (i : Nat) (m₁ : Str → Option Value) (n₁ : Led) : Prop
  | mk : ∀ p' t' n' bb tb ks, (n₁ = (L' + 1, oc1) :: (TP, listOf [Value.ref TL, .int p' t'].toArray n') :: news) → (0 ≤ p') → (KBw.bInts bb = ks) → (ks.length ≤ 4 * i) → (Kp [Str.ofString "k", Str.ofString "number"] (fun y => if y = Str.ofString "octets" then some (.bytes bb tb) else mb y) m₁) → JEa L' oc1 TP TL news mb i m₁ n₁
inductive JEb (L' : Addr) (oc1 : Obj) (TP : Addr) (TL : Addr) (news : Led) (i : Nat) (zs : List Value) (n₂ : Led) : Prop
  | mk : ∀ p' t' n' us, (n₂ = (L' + 1, oc1) :: (TP, listOf [Value.ref TL, .int p' t'].toArray n') :: news) → (0 ≤ p') → (IntsAre zs us) → (us.length = i) → (∀ c ∈ us, 0 ≤ c ∧ c < 256) → JEb L' oc1 TP TL news i zs n₂
theorem con_guess_right (w : World) (news : Led) (TP TL : Addr) (pos : Int) (t : Tok) (n k : Nat) (vs : List Value) (ns : List Int) (hT : ∀ p ∈ news, p.1 ≠ TP) (hTL : (TL, listOf vs.toArray k) ∈ news) (hi : IntsAre vs ns) (hlen : ns.length ≤ 60) (hp : 0 ≤ pos) :
    Con w 288 [.ref TP] 200 2000 ((TP, listOf [Value.ref TL, .int pos t].toArray n) :: news) (fun k => k (.bool true) news) := by
  k_with_none
  k_with "call ref" => (k_here; k_dflt (refine' Con.use ?z58kC ?z58k1 ?z58k2 ?z58k3 ?z58k4 ?z58k5 ?z58kK ?z58kd ?z58ku ?_; (case z58k2 => k_asm); (case z58k4 => k_asm); (case z58kC => first | (refine' con_guessed_none _ _ _ _ _ _ _ ?z58a1 ?z58a2 ?z58a3 ?z58a4 ?z58a5; (case z58a1 => assumption); (case z58a2 => omega); (case z58a3 => omega); (case z58a4 => omega); (case z58a5 => assumption)) | (refine' con_guess_none _ _ _ _ _ _ _ ?z58a1 ?z58a2 ?z58a3 ?z58a4 ?z58a5; (case z58a1 => assumption); (case z58a2 => omega); (case z58a3 => omega); (case z58a4 => omega); (case z58a5 => assumption)) | (refine' con_guessed1_none _ _ _ _ _ ?z58a1 ?z58a2 ?z58a3; (case z58a1 => assumption); (case z58a2 => omega); (case z58a3 => assumption))); (case z58k1 => k_asm); (case z58k3 => k_asm); (case z58k5 => k_asm); (case z58kK => first | exact rfl | assumption); (case z58kd => ktr_room); (case z58ku => ktr_units); intro _ _ _ _; (try dsimp only); (try k_fold)))
  k_with "call ref" => (k_here; k_dflt (refine' Con.use ?z59kC ?z59k1 ?z59k2 ?z59k3 ?z59k4 ?z59k5 ?z59kK ?z59kd ?z59ku ?_; (case z59k2 => k_asm); (case z59k4 => k_asm); (case z59kC => first | (refine' con_guessed_some _ _ _ _ _ _ _ ?z59a1 ?z59a2 ?z59a3 ?z59a4 _ ?z59a5; (case z59a1 => assumption); (case z59a2 => omega); (case z59a3 => omega); (case z59a4 => omega); (case z59a5 => assumption)) | (refine' con_guess_some _ _ _ _ _ _ _ ?z59a1 ?z59a2 ?z59a3 ?z59a4 _ ?z59a5; (case z59a1 => assumption); (case z59a2 => omega); (case z59a3 => omega); (case z59a4 => omega); (case z59a5 => assumption)) | (refine' con_guessed1_some _ _ _ _ _ ?z59a1 ?z59a2 _ ?z59a3; (case z59a1 => assumption); (case z59a2 => omega); (case z59a3 => assumption))); (case z59k1 => k_asm); (case z59k3 => k_asm); (case z59k5 => k_asm); (case z59kK => first | exact rfl | assumption); (case z59kd => ktr_room); (case z59ku => ktr_units); intro _ _ _ _ _; (try dsimp only); (try k_fold)))
  k_with "call ref" => (k_here; k_dflt (refine' Con.use ?z60kC ?z60k1 ?z60k2 ?z60k3 ?z60k4 ?z60k5 ?z60kK ?z60kd ?z60ku ?_; (case z60k2 => k_asm); (case z60k4 => k_asm); (case z60kC => first | (refine' con_row _ _ _ _ _ _ _ _ ?z60a1 ?z60a2 ?z60a3; (case z60a1 => first | decide | exact (some12 _ (by assumption) (by assumption)).1); (case z60a2 => first | decide | exact (some12 _ (by assumption) (by assumption)).2); (case z60a3 => assumption))); (case z60k1 => k_asm); (case z60k3 => k_asm); (case z60k5 => k_asm); (case z60kK => first | exact rfl | assumption); (case z60kd => ktr_room); (case z60ku => ktr_units); intro _ _ _ _ _ _ _ _ _; (try dsimp only); (try k_fold)))
  k_with "call ref" => (k_here; k_dflt (refine' Con.use ?z61kC ?z61k1 ?z61k2 ?z61k3 ?z61k4 ?z61k5 ?z61kK ?z61kd ?z61ku ?_; (case z61k2 => k_asm); (case z61k4 => k_asm); (case z61kC => first | (refine' con_draw _ _ _ _ _ _ _ _ _ _ _ _ _ ?z61a1 ?z61a2 ?z61a3 ?z61a4 ?z61a5 ?z61a6 ?z61a7; (case z61a1 => k_updF); (case z61a2 => k_mem); (case z61a3 => assumption); (case z61a4 => assumption); (case z61a5 => assumption); (case z61a6 => omega); (case z61a7 => omega))); (case z61k1 => k_asm); (case z61k3 => k_asm); (case z61k5 => k_asm); (case z61kK => first | exact rfl | assumption); (case z61kd => ktr_room); (case z61ku => ktr_units); intro _ _ _ _ _ _ _ _ _ _; (try dsimp only); (try k_fold)))
  k_with "subscriptTail" => (k_here; (with_reducible show wpAny _ _ (subscriptTail _ _ (Value.ref _) (Value.int _ _)) _ _ _); k_dflt (refine' item_many ?z62N ?z62a ?z62b ?z62c ?_ ?z62d; (case z62N => k_asm); (case z62a => k_mem); (case z62b => assumption); (case z62c => assumption); (case z62d => with_unfolding_all rfl); intro _ _ _ _))
  k_with "subscriptTail" => (k_here; (with_reducible show wpAny _ _ (subscriptTail _ _ (Value.ref _) (Value.int _ _)) _ _ _); k_dflt (refine' item_size ?z63N ?z63a ?z63b ?z63c ?_ ?z63d; (case z63N => k_asm); (case z63a => k_mem); (case z63b => assumption); (case z63c => assumption); (case z63d => with_unfolding_all rfl); intro _ _ _))
  k_with "subscriptTail" => (k_here; (with_reducible show wpAny _ _ (subscriptTail _ _ (Value.ref _) (Value.int _ _)) _ _ _); k_dflt (refine' item_ord ?z64N ?z64a ?z64b ?z64c ?_ ?z64d; (case z64N => k_asm); (case z64a => k_mem); (case z64b => assumption); (case z64c => assumption); (case z64d => with_unfolding_all rfl); intro _ _))
  k_with_none
  k_with "call ref" => (k_here; k_dflt (refine' Con.use ?z58kC ?z58k1 ?z58k2 ?z58k3 ?z58k4 ?z58k5 ?z58kK ?z58kd ?z58ku ?_; (case z58k2 => k_asm); (case z58k4 => k_asm); (case z58kC => first | (refine' con_guessed_none _ _ _ _ _ _ _ ?z58a1 ?z58a2 ?z58a3 ?z58a4 ?z58a5; (case z58a1 => assumption); (case z58a2 => omega); (case z58a3 => omega); (case z58a4 => omega); (case z58a5 => assumption)) | (refine' con_guess_none _ _ _ _ _ _ _ ?z58a1 ?z58a2 ?z58a3 ?z58a4 ?z58a5; (case z58a1 => assumption); (case z58a2 => omega); (case z58a3 => omega); (case z58a4 => omega); (case z58a5 => assumption)) | (refine' con_guessed1_none _ _ _ _ _ ?z58a1 ?z58a2 ?z58a3; (case z58a1 => assumption); (case z58a2 => omega); (case z58a3 => assumption))); (case z58k1 => k_asm); (case z58k3 => k_asm); (case z58k5 => k_asm); (case z58kK => first | exact rfl | assumption); (case z58kd => ktr_room); (case z58ku => ktr_units); intro _ _ _ _; (try dsimp only); (try k_fold)))
  k_with "call ref" => (k_here; k_dflt (refine' Con.use ?z59kC ?z59k1 ?z59k2 ?z59k3 ?z59k4 ?z59k5 ?z59kK ?z59kd ?z59ku ?_; (case z59k2 => k_asm); (case z59k4 => k_asm); (case z59kC => first | (refine' con_guessed_some _ _ _ _ _ _ _ ?z59a1 ?z59a2 ?z59a3 ?z59a4 _ ?z59a5; (case z59a1 => assumption); (case z59a2 => omega); (case z59a3 => omega); (case z59a4 => omega); (case z59a5 => assumption)) | (refine' con_guess_some _ _ _ _ _ _ _ ?z59a1 ?z59a2 ?z59a3 ?z59a4 _ ?z59a5; (case z59a1 => assumption); (case z59a2 => omega); (case z59a3 => omega); (case z59a4 => omega); (case z59a5 => assumption)) | (refine' con_guessed1_some _ _ _ _ _ ?z59a1 ?z59a2 _ ?z59a3; (case z59a1 => assumption); (case z59a2 => omega); (case z59a3 => assumption))); (case z59k1 => k_asm); (case z59k3 => k_asm); (case z59k5 => k_asm); (case z59kK => first | exact rfl | assumption); (case z59kd => ktr_room); (case z59ku => ktr_units); intro _ _ _ _ _; (try dsimp only); (try k_fold)))
  k_with "call ref" => (k_here; k_dflt (refine' Con.use ?z60kC ?z60k1 ?z60k2 ?z60k3 ?z60k4 ?z60k5 ?z60kK ?z60kd ?z60ku ?_; (case z60k2 => k_asm); (case z60k4 => k_asm); (case z60kC => first | (refine' con_row _ _ _ _ _ _ _ _ ?z60a1 ?z60a2 ?z60a3; (case z60a1 => first | decide | exact (some12 _ (by assumption) (by assumption)).1); (case z60a2 => first | decide | exact (some12 _ (by assumption) (by assumption)).2); (case z60a3 => assumption))); (case z60k1 => k_asm); (case z60k3 => k_asm); (case z60k5 => k_asm); (case z60kK => first | exact rfl | assumption); (case z60kd => ktr_room); (case z60ku => ktr_units); intro _ _ _ _ _ _ _ _ _; (try dsimp only); (try k_fold)))
  k_with "call ref" => (k_here; k_dflt (refine' Con.use ?z61kC ?z61k1 ?z61k2 ?z61k3 ?z61k4 ?z61k5 ?z61kK ?z61kd ?z61ku ?_; (case z61k2 => k_asm); (case z61k4 => k_asm); (case z61kC => first | (refine' con_draw _ _ _ _ _ _ _ _ _ _ _ _ _ ?z61a1 ?z61a2 ?z61a3 ?z61a4 ?z61a5 ?z61a6 ?z61a7; (case z61a1 => k_updF); (case z61a2 => k_mem); (case z61a3 => assumption); (case z61a4 => assumption); (case z61a5 => assumption); (case z61a6 => omega); (case z61a7 => omega))); (case z61k1 => k_asm); (case z61k3 => k_asm); (case z61k5 => k_asm); (case z61kK => first | exact rfl | assumption); (case z61kd => ktr_room); (case z61ku => ktr_units); intro _ _ _ _ _ _ _ _ _ _; (try dsimp only); (try k_fold)))
  k_with "subscriptTail" => (k_here; (with_reducible show wpAny _ _ (subscriptTail _ _ (Value.ref _) (Value.int _ _)) _ _ _); k_dflt (refine' item_many ?z62N ?z62a ?z62b ?z62c ?_ ?z62d; (case z62N => k_asm); (case z62a => k_mem); (case z62b => assumption); (case z62c => assumption); (case z62d => with_unfolding_all rfl); intro _ _ _ _))
  k_with "subscriptTail" => (k_here; (with_reducible show wpAny _ _ (subscriptTail _ _ (Value.ref _) (Value.int _ _)) _ _ _); k_dflt (refine' item_size ?z63N ?z63a ?z63b ?z63c ?_ ?z63d; (case z63N => k_asm); (case z63a => k_mem); (case z63b => assumption); (case z63c => assumption); (case z63d => with_unfolding_all rfl); intro _ _ _))
  k_with "subscriptTail" => (k_here; (with_reducible show wpAny _ _ (subscriptTail _ _ (Value.ref _) (Value.int _ _)) _ _ _); k_dflt (refine' item_ord ?z64N ?z64a ?z64b ?z64c ?_ ?z64d; (case z64N => k_asm); (case z64a => k_mem); (case z64b => assumption); (case z64c => assumption); (case z64d => with_unfolding_all rfl); intro _ _))
  refine' Con.enterC [(Str.ofString "tape", .ref TP)] 199 1997 ?k6 ?k7 ?kd ?ku ?k9 ?kB ?kD ?_ ?c2 ?c3 ?c4
  case k6 => k_is
  case k7 => k_is
  case kd => decide
  case ku => decide
  case k9 => intro s9 X9; first | exact BindsTo.of_eq rfl | exact binds_K (by k_in) rfl (by k_is) rfl rfl rfl
  case kB => exact rfl
  case kD => decide +kernel
  case c2 => exact rfl
  case c3 => exact rfl
  case c4 => exact rfl
  intro loose mean mg mb dp un gd outer A₀ base g' h' L' q0 gg dd oo tk0 cells' k0 B' X' T' hdp hun F' N' Y' l1 hret lv
  refine nameAE ?_
  intro Av Ev
  obtain ⟨oc1, hE, dc1⟩ := CellsAre.one Y'
  subst hE
  clear Y'
  replace dc1 : oc1.data = .cell (some (.ref TP)) := dc1.trans (by rfl)
  simp only [List.cons_append, List.nil_append] at N'
  replace F' : Fr g' L' h' (fun _ => none) := F'
  try generalize s.toks + List.length _ = tk0
  (try dsimp only)
  (try k_fold)
  have hne : TL ≠ TP := hT _ hTL
  have hTPl : @LT.lt Nat instLTNat TP L' := l1 _ (.head _)
  have hPl : ∀ p ∈ news, p.1 < L' := fun p hp => l1 p (.tail _ hp)
  k_with "exec For Name Call cons nil" => (k_dflt ((rename Fr _ _ _ _ => lF9); (with_unfolding_all refine' For_turns lF9 ?_; k_whole)))
  k_steps
  rename Fr _ _ _ _ => F7
  rename News _ _ _ _ => N7
  clear lF9
  obtain ⟨mb, hmb, F7⟩ := fr_named F7
  k_dflt (refine for_range (by rfl) F7 (news_sub N7 (sub_tpn3 (x := [_, _, _]))) (by assumption) (small_one (by omega) (by omega) (by omega) (by omega)) (rangeSize_nat _ _) (JEa L' oc1 TP TL news mb) ⟨_, _, _, #[], ?tb0, [], rfl, by omega, rfl, Nat.zero_le _, ?k0⟩ ?turn ?fin)
  case k0 =>
    intro y _
    subst hmb
    by_cases h : y = Str.ofString "octets"
    · subst h; rfl
    · simp only [h, if_false]
  case turn =>
    intro i ti m₁ n₁ own h9 tk9 hj hJ hoff hw hown F9 N9
    obtain ⟨p', t', n', bb, tb, ks, rfl, hp', hbb, hkl, hkp⟩ := hJ
    obtain ⟨x1, x2, rfl⟩ := hkp.shape2
    subst hmb
    (try dsimp only at F9)
    have hTw := off_not hoff (.tail _ (.head _))
    have hTr := all_app hT (own_ne hown hTw)
    have hTLr : (TL, listOf vs.toArray k) ∈ news ++ own := List.mem_append_left _ hTL
    obtain ⟨rest, hrest⟩ : ∃ r, r = news ++ own := ⟨_, rfl⟩
    simp only [List.cons_append] at N9
    rw [← hrest] at N9 hTr hTLr
    have hki : ks.length ≤ 40 := by omega
    clear hkp N7 F7
    k_steps
    all_goals (
      rename KBw.bInts (bb ++ _) = _ => happ
      subst hrest
      refine TurnEnd.intro (n' := (L' + 1, oc1) :: (TP, _) :: news) (by k_asm) (by k_asm) (off_same hoff (by rfl)) ⟨_, _, _, _, _, _, rfl, (by omega), happ, (by rw [List.length_append]; omega), by first | walk_at "kp" | (intro y hy; simp only [List.mem_cons, not_or, List.not_mem_nil, not_false_eq_true, and_true] at hy; by_cases hq0 : y = Str.ofString "octets"; (· subst hq0; rfl); simp only [setN, setO, hy, hq0, if_false])⟩)
  case fin =>
    rintro m₁ n₁ h9 tk9 ⟨p', t', n', bb, tb, ks, rfl, hp', hbb, hkl, hkp⟩ F9 N9
    obtain ⟨x1, x2, rfl⟩ := hkp.shape2
    subst hmb
    (try dsimp only at F9)
    have hki : ks.length ≤ 32 := by omega
    clear hkp N7 F7 hkl
    k_with_none
    k_with "call ref" => (k_here; k_dflt (refine' Con.use ?z58kC ?z58k1 ?z58k2 ?z58k3 ?z58k4 ?z58k5 ?z58kK ?z58kd ?z58ku ?_; (case z58k2 => k_asm); (case z58k4 => k_asm); (case z58kC => first | (refine' con_guessed_none _ _ _ _ _ _ _ ?z58a1 ?z58a2 ?z58a3 ?z58a4 ?z58a5; (case z58a1 => assumption); (case z58a2 => omega); (case z58a3 => omega); (case z58a4 => omega); (case z58a5 => assumption)) | (refine' con_guess_none _ _ _ _ _ _ _ ?z58a1 ?z58a2 ?z58a3 ?z58a4 ?z58a5; (case z58a1 => assumption); (case z58a2 => omega); (case z58a3 => omega); (case z58a4 => omega); (case z58a5 => assumption)) | (refine' con_guessed1_none _ _ _ _ _ ?z58a1 ?z58a2 ?z58a3; (case z58a1 => assumption); (case z58a2 => omega); (case z58a3 => assumption))); (case z58k1 => k_asm); (case z58k3 => k_asm); (case z58k5 => k_asm); (case z58kK => first | exact rfl | assumption); (case z58kd => ktr_room); (case z58ku => ktr_units); intro _ _ _ _; (try dsimp only); (try k_fold)))
    k_with "call ref" => (k_here; k_dflt (refine' Con.use ?z59kC ?z59k1 ?z59k2 ?z59k3 ?z59k4 ?z59k5 ?z59kK ?z59kd ?z59ku ?_; (case z59k2 => k_asm); (case z59k4 => k_asm); (case z59kC => first | (refine' con_guessed_some _ _ _ _ _ _ _ ?z59a1 ?z59a2 ?z59a3 ?z59a4 _ ?z59a5; (case z59a1 => assumption); (case z59a2 => omega); (case z59a3 => omega); (case z59a4 => omega); (case z59a5 => assumption)) | (refine' con_guess_some _ _ _ _ _ _ _ ?z59a1 ?z59a2 ?z59a3 ?z59a4 _ ?z59a5; (case z59a1 => assumption); (case z59a2 => omega); (case z59a3 => omega); (case z59a4 => omega); (case z59a5 => assumption)) | (refine' con_guessed1_some _ _ _ _ _ ?z59a1 ?z59a2 _ ?z59a3; (case z59a1 => assumption); (case z59a2 => omega); (case z59a3 => assumption))); (case z59k1 => k_asm); (case z59k3 => k_asm); (case z59k5 => k_asm); (case z59kK => first | exact rfl | assumption); (case z59kd => ktr_room); (case z59ku => ktr_units); intro _ _ _ _ _; (try dsimp only); (try k_fold)))
    k_with "call ref" => (k_here; k_dflt (refine' Con.use ?z60kC ?z60k1 ?z60k2 ?z60k3 ?z60k4 ?z60k5 ?z60kK ?z60kd ?z60ku ?_; (case z60k2 => k_asm); (case z60k4 => k_asm); (case z60kC => first | (refine' con_row _ _ _ _ _ _ _ _ ?z60a1 ?z60a2 ?z60a3; (case z60a1 => first | decide | exact (some12 _ (by assumption) (by assumption)).1); (case z60a2 => first | decide | exact (some12 _ (by assumption) (by assumption)).2); (case z60a3 => assumption))); (case z60k1 => k_asm); (case z60k3 => k_asm); (case z60k5 => k_asm); (case z60kK => first | exact rfl | assumption); (case z60kd => ktr_room); (case z60ku => ktr_units); intro _ _ _ _ _ _ _ _ _; (try dsimp only); (try k_fold)))
    k_with "call ref" => (k_here; k_dflt (refine' Con.use ?z61kC ?z61k1 ?z61k2 ?z61k3 ?z61k4 ?z61k5 ?z61kK ?z61kd ?z61ku ?_; (case z61k2 => k_asm); (case z61k4 => k_asm); (case z61kC => first | (refine' con_draw _ _ _ _ _ _ _ _ _ _ _ _ _ ?z61a1 ?z61a2 ?z61a3 ?z61a4 ?z61a5 ?z61a6 ?z61a7; (case z61a1 => k_updF); (case z61a2 => k_mem); (case z61a3 => assumption); (case z61a4 => assumption); (case z61a5 => assumption); (case z61a6 => omega); (case z61a7 => omega))); (case z61k1 => k_asm); (case z61k3 => k_asm); (case z61k5 => k_asm); (case z61kK => first | exact rfl | assumption); (case z61kd => ktr_room); (case z61ku => ktr_units); intro _ _ _ _ _ _ _ _ _ _; (try dsimp only); (try k_fold)))
    k_with "subscriptTail" => (k_here; (with_reducible show wpAny _ _ (subscriptTail _ _ (Value.ref _) (Value.int _ _)) _ _ _); k_dflt (refine' item_many ?z62N ?z62a ?z62b ?z62c ?_ ?z62d; (case z62N => k_asm); (case z62a => k_mem); (case z62b => assumption); (case z62c => assumption); (case z62d => with_unfolding_all rfl); intro _ _ _ _))
    k_with "subscriptTail" => (k_here; (with_reducible show wpAny _ _ (subscriptTail _ _ (Value.ref _) (Value.int _ _)) _ _ _); k_dflt (refine' item_size ?z63N ?z63a ?z63b ?z63c ?_ ?z63d; (case z63N => k_asm); (case z63a => k_mem); (case z63b => assumption); (case z63c => assumption); (case z63d => with_unfolding_all rfl); intro _ _ _))
    k_with "subscriptTail" => (k_here; (with_reducible show wpAny _ _ (subscriptTail _ _ (Value.ref _) (Value.int _ _)) _ _ _); k_dflt (refine' item_ord ?z64N ?z64a ?z64b ?z64c ?_ ?z64d; (case z64N => k_asm); (case z64a => k_mem); (case z64b => assumption); (case z64c => assumption); (case z64d => with_unfolding_all rfl); intro _ _))
    k_with "eval ListComp" => (k_dflt (refine ListComp_J (by k_asm) (by with_unfolding_all rfl) (by decide) (by rfl) (by decide) ?_))
    k_steps
    k_dflt (refine comp_range (by rfl) (by k_asm) (by k_asm) (by assumption) (small_one (by omega) (by omega) (by omega) (by omega)) (rangeSize_nat _ _) (by rw [sizeLine_eq]; omega) (by rfl) (by rfl) (JEb L' oc1 TP TL news) ⟨_, _, _, [], rfl, by omega, .nil, rfl, (fun _ h => nomatch h)⟩ ?turn2 ?fin2)
    case turn2 =>
      intro g8 i2 zs n₂ own2 C2 D2 oC2 m2 h8 tk8 E8 hi8 hz2 hJ2 hoff2 hw2 hown2 hoC2 F8 N8
      obtain ⟨p2, t2, n2, us, rfl, hp2, hzs, hul, hus⟩ := hJ2
      (try dsimp only)
      have hTw2 := off_not hoff2 (.tail _ (.head _))
      have hDT2 := off_ne hoff2 (b := D2) (.tail _ (.head _)) (.head _)
      have hCT2 := off_ne hoff2 (b := C2) (.tail _ (.head _)) (.tail _ (.head _))
      have hTr2 := all_app hT (own_ne hown2 (fun h => hTw2 (.tail _ (.tail _ h))))
      have hTLr2 : (TL, listOf vs.toArray k) ∈ news ++ own2 := List.mem_append_left _ hTL
      simp only [List.cons_append] at N8
      obtain ⟨rest2, hrest2⟩ : ∃ r, r = news ++ own2 := ⟨_, rfl⟩
      rw [← hrest2] at N8 hTr2 hTLr2
      refine tests_ce ?_
      intro qc hqc
      (try dsimp only)
      k_steps
      subst hrest2
      refine CE.go hqc (n' := (L' + 1, oc1) :: (TP, _) :: news) (by k_asm) (ce_back (news_sub (by k_asm) (fun p hp => .tail _ hp))) (off_same hoff2 (by rfl)) ⟨_, _, _, _, rfl, (by omega), ints_snoc hzs _ _, (by rw [List.length_append, hul]; rfl), snoc_all hus (menu3 _ (by assumption) (by assumption))⟩
    case fin2 =>
      rintro g8 tk8 zs n₂ ⟨p2, t2, n2, us, rfl, hp2, hzs, hul, hus⟩ D2 h8 tk8 F8 N8 hD2
      (try dsimp only)
      have hzl := IntsAre.length hzs
      have hul3 : us.length ≤ 3 := draw_len hul ‹_›
      have hDc : @Ne Nat (L' + 1) D2 := hD2 _ (.head _)
      have hDc3 : @Ne Nat TP D2 := hD2 _ (.tail _ (.head _))
      k_with "exec If Compare cons nil" => (k_dflt (refine WStop.go ?_))
      k_steps
      unfold WStop
      rename KBw.bInts (bb ++ _) = _ => happ
      rename _ ≤ (64 : Int) => hx64
      obtain ⟨xm, hxm⟩ := le_name hx64
      subst hxm
      obtain ⟨ks2, hks2, hkl2⟩ : ∃ ks', KBw.bInts (bb ++ byteArr us) = ks' ∧ ks'.length ≤ 36 := ⟨_, happ, by rw [List.length_append]; omega⟩
      generalize bb ++ byteArr us = b2 at *
      clear happ hbb N9 F9 N8 F8 hus hzs hzl hul
      k_with_none
      k_with "call ref" => (k_here; k_dflt (refine' Con.use ?z58kC ?z58k1 ?z58k2 ?z58k3 ?z58k4 ?z58k5 ?z58kK ?z58kd ?z58ku ?_; (case z58k2 => k_asm); (case z58k4 => k_asm); (case z58kC => first | (refine' con_guessed_none _ _ _ _ _ _ _ ?z58a1 ?z58a2 ?z58a3 ?z58a4 ?z58a5; (case z58a1 => assumption); (case z58a2 => omega); (case z58a3 => omega); (case z58a4 => omega); (case z58a5 => assumption)) | (refine' con_guess_none _ _ _ _ _ _ _ ?z58a1 ?z58a2 ?z58a3 ?z58a4 ?z58a5; (case z58a1 => assumption); (case z58a2 => omega); (case z58a3 => omega); (case z58a4 => omega); (case z58a5 => assumption)) | (refine' con_guessed1_none _ _ _ _ _ ?z58a1 ?z58a2 ?z58a3; (case z58a1 => assumption); (case z58a2 => omega); (case z58a3 => assumption))); (case z58k1 => k_asm); (case z58k3 => k_asm); (case z58k5 => k_asm); (case z58kK => first | exact rfl | assumption); (case z58kd => ktr_room); (case z58ku => ktr_units); intro _ _ _ _; (try dsimp only); (try k_fold)))
      k_with "call ref" => (k_here; k_dflt (refine' Con.use ?z59kC ?z59k1 ?z59k2 ?z59k3 ?z59k4 ?z59k5 ?z59kK ?z59kd ?z59ku ?_; (case z59k2 => k_asm); (case z59k4 => k_asm); (case z59kC => first | (refine' con_guessed_some _ _ _ _ _ _ _ ?z59a1 ?z59a2 ?z59a3 ?z59a4 _ ?z59a5; (case z59a1 => assumption); (case z59a2 => omega); (case z59a3 => omega); (case z59a4 => omega); (case z59a5 => assumption)) | (refine' con_guess_some _ _ _ _ _ _ _ ?z59a1 ?z59a2 ?z59a3 ?z59a4 _ ?z59a5; (case z59a1 => assumption); (case z59a2 => omega); (case z59a3 => omega); (case z59a4 => omega); (case z59a5 => assumption)) | (refine' con_guessed1_some _ _ _ _ _ ?z59a1 ?z59a2 _ ?z59a3; (case z59a1 => assumption); (case z59a2 => omega); (case z59a3 => assumption))); (case z59k1 => k_asm); (case z59k3 => k_asm); (case z59k5 => k_asm); (case z59kK => first | exact rfl | assumption); (case z59kd => ktr_room); (case z59ku => ktr_units); intro _ _ _ _ _; (try dsimp only); (try k_fold)))
      k_with "call ref" => (k_here; k_dflt (refine' Con.use ?z60kC ?z60k1 ?z60k2 ?z60k3 ?z60k4 ?z60k5 ?z60kK ?z60kd ?z60ku ?_; (case z60k2 => k_asm); (case z60k4 => k_asm); (case z60kC => first | (refine' con_row _ _ _ _ _ _ _ _ ?z60a1 ?z60a2 ?z60a3; (case z60a1 => first | decide | exact (some12 _ (by assumption) (by assumption)).1); (case z60a2 => first | decide | exact (some12 _ (by assumption) (by assumption)).2); (case z60a3 => assumption))); (case z60k1 => k_asm); (case z60k3 => k_asm); (case z60k5 => k_asm); (case z60kK => first | exact rfl | assumption); (case z60kd => ktr_room); (case z60ku => ktr_units); intro _ _ _ _ _ _ _ _ _; (try dsimp only); (try k_fold)))
      k_with "call ref" => (k_here; k_dflt (refine' Con.use ?z61kC ?z61k1 ?z61k2 ?z61k3 ?z61k4 ?z61k5 ?z61kK ?z61kd ?z61ku ?_; (case z61k2 => k_asm); (case z61k4 => k_asm); (case z61kC => first | (refine' con_draw _ _ _ _ _ _ _ _ _ _ _ _ _ ?z61a1 ?z61a2 ?z61a3 ?z61a4 ?z61a5 ?z61a6 ?z61a7; (case z61a1 => k_updF); (case z61a2 => k_mem); (case z61a3 => assumption); (case z61a4 => assumption); (case z61a5 => assumption); (case z61a6 => omega); (case z61a7 => omega))); (case z61k1 => k_asm); (case z61k3 => k_asm); (case z61k5 => k_asm); (case z61kK => first | exact rfl | assumption); (case z61kd => ktr_room); (case z61ku => ktr_units); intro _ _ _ _ _ _ _ _ _ _; (try dsimp only); (try k_fold)))
      k_with "subscriptTail" => (k_here; (with_reducible show wpAny _ _ (subscriptTail _ _ (Value.ref _) (Value.int _ _)) _ _ _); k_dflt (refine' item_many ?z62N ?z62a ?z62b ?z62c ?_ ?z62d; (case z62N => k_asm); (case z62a => k_mem); (case z62b => assumption); (case z62c => assumption); (case z62d => with_unfolding_all rfl); intro _ _ _ _))
      k_with "subscriptTail" => (k_here; (with_reducible show wpAny _ _ (subscriptTail _ _ (Value.ref _) (Value.int _ _)) _ _ _); k_dflt (refine' item_size ?z63N ?z63a ?z63b ?z63c ?_ ?z63d; (case z63N => k_asm); (case z63a => k_mem); (case z63b => assumption); (case z63c => assumption); (case z63d => with_unfolding_all rfl); intro _ _ _))
      k_with "subscriptTail" => (k_here; (with_reducible show wpAny _ _ (subscriptTail _ _ (Value.ref _) (Value.int _ _)) _ _ _); k_dflt (refine' item_ord ?z64N ?z64a ?z64b ?z64c ?_ ?z64d; (case z64N => k_asm); (case z64a => k_mem); (case z64b => assumption); (case z64c => assumption); (case z64d => with_unfolding_all rfl); intro _ _))
      cases hg : guessS (ks2.take (clipAt ks2.length (xm.fdiv 4 * 4))) with
      | none =>
        cases hg2 : guessS (ks2.take (clipAt ks2.length ((64 : Int).fdiv 4 * 4))) with
        | none =>
          k_steps
          all_goals first
            | exact lv.go (hret) (by k_asm) (news_sub (by k_asm) (sub_tpn3 (x := [_, _, _, _])))
            | exact retB lv hret (beq_self_eq_true _) (by k_asm) (news_sub (by k_asm) (sub_tpn3 (x := [_, _, _, _])))
            | (rename (_ != _) = true => hq; exact absurd hq (by simp))
        | some y =>
          k_steps
          all_goals first
            | exact lv.go (hret) (by k_asm) (news_sub (by k_asm) (sub_tpn3 (x := [_, _, _, _])))
            | exact retB lv hret (beq_self_eq_true _) (by k_asm) (news_sub (by k_asm) (sub_tpn3 (x := [_, _, _, _])))
            | (rename (_ != _) = true => hq; exact absurd hq (by simp))
      | some x =>
        cases hg2 : guessS (ks2.take (clipAt ks2.length ((64 : Int).fdiv 4 * 4))) with
        | none =>
          k_steps
          all_goals first
            | exact lv.go (hret) (by k_asm) (news_sub (by k_asm) (sub_tpn3 (x := [_, _, _, _])))
            | exact retB lv hret (beq_self_eq_true _) (by k_asm) (news_sub (by k_asm) (sub_tpn3 (x := [_, _, _, _])))
            | (rename (_ != _) = true => hq; exact absurd hq (by simp))
        | some y =>
          k_steps
          all_goals first
            | exact lv.go (hret) (by k_asm) (news_sub (by k_asm) (sub_tpn3 (x := [_, _, _, _])))
            | exact retB lv hret (beq_self_eq_true _) (by k_asm) (news_sub (by k_asm) (sub_tpn3 (x := [_, _, _, _])))
            | (rename (_ != _) = true => hq; exact absurd hq (by simp))
end Nge
end
-- PT
/-! contracts of calls that may turn the slots of the frames below -/
abbrev frs (l : List Env) : List Addr := l.filterMap (·.frame)
theorem ground_turn {A₀ : Around} {base g G B h₅ : Heap} {outer : List Env} {L : Addr} {fl : List Addr} {m : Str → Option Value} (K : Below A₀ base outer g) (F : Fr g L G m) (hfl : ∀ b ∈ fl, b = L ∨ b ∈ frs outer) (hBG : ∀ b o, G.get? b = some o → b ∉ fl → B.get? b = some o) (hBh : B.StaysIn h₅) (hsm : G.UpToSlots h₅) :
    ∃ g', KtsTurn (frs outer) g g' ∧ Fr g' L h₅ m ∧ Below A₀ base outer g' := by
  obtain ⟨T, S⟩ := kts_turn_at (h := h₅) (fs := frs outer) (g := g)
    (fun b hb => by
      obtain ⟨_, o, ho, _⟩ := K.frames.mem hb
      exact ⟨o, ho⟩)
    (fun b o e nm => hBh b o (hBG b o (F.keep b o e) (fun hm => by
      rcases hfl b hm with z | z
      · rw [z, kts_self F] at e
        cases e
      · exact nm z)))
    (fun b o e hm => by
      obtain ⟨_, o', ho', hd⟩ := K.frames.mem hm
      rw [e] at ho'
      cases ho'
      exact hsm b o (F.keep b o e) hd)
  refine ⟨_, T, ⟨hsm.ns F.ns, S, by rw [T.size]; exact F.above⟩, ⟨K.stack, fun b o e => T.other b o (K.stays b o e) (fun hm => by
    rw [(K.frames.mem hm).1] at e
    cases e), K.frames.of_keeps fun b o e _ => ?_⟩⟩
  obtain ⟨sl, hs⟩ := T.up e
  exact ⟨_, hs, rfl⟩
noncomputable def LeaveT (fs : List Addr) (A₀ : Around) (base : Heap) (outer : List Env) (K : Frag) (p : Program) (loose : List Str) (mean : ExcName → Option Value) (mg mb : Str → Option Value) (h₀ : Heap) (L : Addr) (m : Str → Option Value) (g : Heap) (R : Result → Shared → Prop) (v : Value) (s' : Shared) : Prop :=
  ∃ g' L' m' news', KtsTurn fs g g' ∧ Fr g' L' s'.heap m' ∧ News g' L' s'.heap news' ∧ ∀ h₀', KtsTurn (frs outer) h₀ h₀' → Fr h₀' L s'.heap m → News h₀' L s'.heap news' → Below A₀ base outer h₀' → K.In h₀' → Top p loose mean mg mb h₀' → R (.ok (.ret v)) s'
theorem leaveT_ {fs : List Addr} {A₀ : Around} {base : Heap} {outer : List Env} {K : Frag} {p : Program} {loose : List Str} {mean : ExcName → Option Value} {mg mb : Str → Option Value} {h₀ g g' : Heap} {L L' : Addr} {m m' : Str → Option Value} {news' : Led} {R : Result → Shared → Prop} {v : Value} {s' : Shared}
    (F' : Fr g' L' s'.heap m') (N' : News g' L' s'.heap news') (T : KtsTurn fs g g')
    (k : ∀ h₀', KtsTurn (frs outer) h₀ h₀' → Fr h₀' L s'.heap m → News h₀' L s'.heap news' → Below A₀ base outer h₀' → K.In h₀' → Top p loose mean mg mb h₀' → R (.ok (.ret v)) s') :
    LeaveT fs A₀ base outer K p loose mean mg mb h₀ L m g R v s' := ⟨g', L', m', news', T, F', N', k⟩
section
variable {prog : Program} {w : World} {A₀ A : Around} {s : Shared} {base h₀ : Heap} {env : Env} {outer : List Env} {L : Addr} {m : Str → Option Value} {news : Led} {K : Frag} {p : Program} {loose : List Str} {mean : ExcName → Option Value} {mg mb : Str → Option Value}
    {R : Result → Shared → Prop} {name qual : Str} {params : Arguments} {body : List Stmt} {scope : Scope} {dV kV doc pm cdv ct oc : Value} {an od : Option Addr} {osl : Array (Option Value)} {f : Addr} {args : Args} {binds : List (Str × Value)}
theorem groundT (B : Below A₀ base outer h₀) (F : Fr h₀ L s.heap m) (N : News h₀ L s.heap news) (hA : A.frames = some (env :: outer)) (hf : env.frame = some L) (hke : env.scope.kind = .function) (XB : K.In base) (TB : Top p loose mean mg mb base) :
    Fr h₀ L (hideAll s.heap (news.map (·.1))) m ∧ Below A base (env :: outer) (hideAll s.heap (news.map (·.1))) ∧ h₀.StaysIn (hideAll s.heap (news.map (·.1))) ∧
      ∀ v s', LeaveT (frs (env :: outer)) A₀ base outer K p loose mean mg mb h₀ L m (hideAll s.heap (news.map (·.1))) R v s' → R (.ok (.ret v)) s' := by
  obtain ⟨FG, BG, st, _⟩ := groundX (R := R) B F N hA hf hke
  refine ⟨FG, BG, st, ?_⟩
  rintro v s' ⟨g', L', m', news', T', F', N', k⟩
  obtain ⟨oL, es, ep, hLg, hLd, hLk, hLf⟩ := FG.ns
  have nL₀ : h₀.get? L = none := kts_self F
  obtain ⟨sl, hs⟩ := T'.up hLg
  have hmem : ∀ b, b ∈ frs (env :: outer) → b = L ∨ b ∈ frs outer := fun b hm => by
    obtain ⟨env', he, hf'⟩ := List.mem_filterMap.mp hm
    rcases List.mem_cons.mp he with rfl | he
    · exact .inl (Option.some.inj (hf'.symm.trans hf))
    · exact .inr (List.mem_filterMap.mpr ⟨env', he, hf'⟩)
  obtain ⟨T₁, S₁⟩ := kts_turn_at (h := s'.heap) (fs := frs outer) (g := h₀)
    (fun b hb => by
      obtain ⟨_, o, ho', _⟩ := B.frames.mem hb
      exact ⟨o, ho'⟩)
    (fun b o e nmem => F'.keep b o (T'.other b o (st b o e) (fun q => by
      rcases hmem b q with z | z
      · rw [z, nL₀] at e
        cases e
      · exact nmem z)))
    (fun b o e hm => by
      obtain ⟨sl', hs'⟩ := T'.up (st b o e)
      exact ⟨sl', F'.keep _ _ hs'⟩)
  have B₃ : Below A₀ base outer (ktsHeap s'.heap (frs outer) h₀) := ⟨B.stack, fun b o e => T₁.other b o (B.stays b o e) (fun hm => by
    rw [(B.frames.mem hm).1] at e
    cases e), B.frames.of_keeps fun b o e _ => by
    obtain ⟨sl', hs'⟩ := T₁.up e
    exact ⟨_, hs', rfl⟩⟩
  refine k _ T₁ ⟨⟨_, es, ep, F'.keep _ _ hs, hLd, hLk, hLf⟩, S₁, by rw [T₁.size]; exact F.above⟩ (fun p hp => ⟨(N' p hp).1, fun q => ?_, ?_⟩) B₃ (XB.keeps B₃.stays) (TB.keeps B₃.stays)
  · have := (N' p hp).2.2; rw [q, hs] at this; cases this
  · refine T₁.none_ _ ?_
    cases q : h₀.get? p.1 with
    | none => rfl
    | some o =>
      obtain ⟨sl', hs'⟩ := T'.up (st _ _ q)
      have := (N' p hp).2.2
      rw [hs'] at this
      cases this
theorem code_defT (B : Below A₀ base outer h₀) (F : Fr h₀ L s.heap m) (X₀ : K.In h₀) (N : News h₀ L s.heap news) (T : Top p loose mean mg mb h₀) (XB : K.In base) (TB : Top p loose mean mg mb base) (hA : A.frames = some (env :: outer)) (hf : env.frame = some L) (hke : env.scope.kind = .function)
    (ho : K.lookup f = some ⟨oc, od, .func (fnOf name qual params body scope dV kV doc pm an cdv ct), osl⟩) (hcd : codeIn K cdv qual = true) (hroom : A.depth < recursionLimit)
    (hbind : BindsTo s (fnOf name qual params body scope dV kV doc pm an cdv ct) args binds) (hloc : ∀ y ∈ binds, scope.names.lookup y.1 = some .local)
    (h : ∀ g L' h₁, Fr h₀ L g m → Fr g L' h₁ (fun y => binds.reverse.lookup y) → News g L' h₁ news → Below A base (env :: outer) g → K.In g → Top p loose mean mg mb g →
      wpAny (model prog w) (A.deeper (envOf qual scope L' f cdv)) (execs body (envOf qual scope L' f cdv))
        (fun fl s' => LeaveT (frs (env :: outer)) A₀ base outer K p loose mean mg mb h₀ L m g R (match fl with | .ret v => v | _ => .none) s')
        (fun e s' => wpAny (model prog w) (A.deeper (envOf qual scope L' f cdv)) (leaving (envOf qual scope L' f cdv) e) (fun _ s'' => R (.error e) s'') (fun e' s'' => R (.error e') s'') s')
        { s with heap := h₁, toks := s.toks + binds.length })
    (hco : scope.isCoroutine = false) (hgen : scope.isGenerator = false) (hk : scope.kind = .function)
    (hcell : ∀ x ∈ scope.names, x.2 ≠ .cell) : codeAny (model prog w) A (.call (.ref f) args) R s := by
  obtain ⟨FG, BG, st, lv⟩ := groundT (R := R) B F N hA hf hke XB TB
  refine codeAny_call_def (fd := fnOf name qual params body scope dV kV doc pm an cdv ct) (body := body) (binds := binds) hroom ((X₀.keeps F.keep) _ _ ho) rfl (T.nolimit.keeps F.keep) (codeRec_of (X₀.keeps F.keep) hcd) rfl hbind hcell hloc (fun h₁ hns hk₁ => ?_) hco hgen hk
  exact wpAny_mono (h _ s.heap.objs.size h₁ FG ⟨hns, fun b o e => hk₁ b o (of_hideAll _ e), Nat.le_of_eq (hideAll_size _ _)⟩
    (fun p hp => ⟨hk₁ _ _ (N p hp).1, Nat.ne_of_lt (Heap.lt_size (N p hp).1), hideAll_none _ (List.mem_map_of_mem hp)⟩) BG (X₀.keeps st) (T.keeps st)) (fun fl s' hl => lv _ _ hl) fun _ _ y => y
theorem code_defCT (B : Below A₀ base outer h₀) (F : Fr h₀ L s.heap m) (X₀ : K.In h₀) (N : News h₀ L s.heap news) (T : Top p loose mean mg mb h₀) (XB : K.In base) (TB : Top p loose mean mg mb base) (hA : A.frames = some (env :: outer)) (hf : env.frame = some L) (hke : env.scope.kind = .function)
    (ho : K.lookup f = some ⟨oc, od, .func (fnOf name qual params body scope dV kV doc pm an cdv ct), osl⟩) (hcd : codeIn K cdv qual = true) (hroom : A.depth < recursionLimit)
    (hbind : BindsTo s (fnOf name qual params body scope dV kV doc pm an cdv ct) args binds) (hkind : (binds.all fun y => scope.names.lookup y.1 == some .local || scope.names.lookup y.1 == some .cell) = true)
    (hnd : ((cellsFrom 0 scope.names []).map (·.1)).Nodup)
    (h : ∀ g L' h₁ tk cells, Fr h₀ L g m → Fr g L' h₁ (bindL (envOfC qual scope L' f cdv).kindOf binds fun _ => none) → News g L' h₁ (cells ++ news) →
      CellsAre (bindC (envOfC qual scope L' f cdv).kindOf binds fun _ => none) (cellsFrom (L' + 1) scope.names []) cells → Below A base (env :: outer) g → K.In g → Top p loose mean mg mb g → (∀ p ∈ news, p.1 < L') →
      wpAny (model prog w) (A.deeper (envOfC qual scope L' f cdv)) (execs body (envOfC qual scope L' f cdv))
        (fun fl s' => LeaveT (frs (env :: outer)) A₀ base outer K p loose mean mg mb h₀ L m g R (match fl with | .ret v => v | _ => .none) s')
        (fun e s' => wpAny (model prog w) (A.deeper (envOfC qual scope L' f cdv)) (leaving (envOfC qual scope L' f cdv) e) (fun _ s'' => R (.error e) s'') (fun e' s'' => R (.error e') s'') s')
        { s with heap := h₁, toks := tk })
    (hco : scope.isCoroutine = false) (hgen : scope.isGenerator = false) (hk : scope.kind = .function) : codeAny (model prog w) A (.call (.ref f) args) R s := by
  obtain ⟨FG, BG, st, lv⟩ := groundT (R := R) B F N hA hf hke XB TB
  refine codeAny_call_function hroom ((X₀.keeps F.keep) _ _ ho) rfl hco hgen rfl (codeRec_of (X₀.keeps F.keep) hcd) (hbind _ _ _ _ ?_)
  refine wpAny_newFunctionEnv_cells hk ((kindsX hkind) _) fun env' he s' x => ?_
  subst he
  refine ⟨(T.nolimit.keeps F.keep).keeps x.toInCall.keep, codeAny_func ?_⟩
  obtain ⟨h₁, tk, rfl, _⟩ := x.done
  have hk₁ := x.toInCall.keep
  obtain ⟨cells, NC, Y⟩ := Cl.news (h₀ := s.heap) (Nat.le_refl _) fun n c hm => ⟨x.cell n c (lookup_of_mem_nodup (cellsFrom_names scope.names 0 (s.heap.objs.size + 1) [] [] rfl ▸ hnd) hm), x.above n c hm⟩
  refine wpAny_mono (h _ s.heap.objs.size h₁ tk cells FG ⟨x.toInCall.ns, fun b o e => hk₁ b o (of_hideAll _ e), Nat.le_of_eq (hideAll_size _ _)⟩ (fun p hp => ?_) Y BG (X₀.keeps st) (T.keeps st) (fun p hp => Heap.lt_size (N p hp).1)) (fun fl s' hl => lv _ _ hl) fun _ _ y => y
  rcases List.mem_append.mp hp with hp | hp
  · refine ⟨(NC p hp).1, (NC p hp).2.1, ?_⟩
    cases q : (hideAll s.heap (news.map (·.1))).get? p.1 with
    | none => rfl
    | some o => have := of_hideAll _ q; rw [(NC p hp).2.2] at this; cases this
  · exact ⟨hk₁ _ _ (N p hp).1, Nat.ne_of_lt (Heap.lt_size (N p hp).1), hideAll_none _ (List.mem_map_of_mem hp)⟩
end
/-- the contract of a call that may turn the frames below -/
noncomputable def ConT (w : World) (f : Addr) (args : List Value) (dd uu : Nat) (news : Led) (S : Heap → Prop) (P : Kont) : Prop :=
  ∀ (loose : List Str) (mean : ExcName → Option Value) (mg mb : Str → Option Value) (dp un : Nat) (gd : Option (List Code)) (cn : Str) (cs : Scope) (a : Addr) (ccd : Value) (cl : List (Str × Addr)) (outer : List Env) (A₀ : Around) (base h₀ : Heap) (L : Addr) (m : Str → Option Value) (s : Shared)
    (Q E : Value → Shared → Prop),
    Below A₀ base outer h₀ → Fr h₀ L s.heap m → (hdT.heap_1 w.params).In h₀ → News h₀ L s.heap news → Top topProg loose mean mg mb h₀ → (hdT.heap_1 w.params).In base → Top topProg loose mean mg mb base → S base → cs.kind = .function → dp + dd < recursionLimit → un + uu < cLine →
    P (fun r news' => ∀ h₀' h' tk', KtsTurn (frs outer) h₀ h₀' → Below A₀ base outer h₀' → (hdT.heap_1 w.params).In h₀' → Top topProg loose mean mg mb h₀' → Fr h₀' L h' m → News h₀' L h' news' → Q r { s with heap := h', toks := tk' }) →
    wpAny (model PySem.Challenge.rw_nt0006_01.row.prog w) (ktrTop dp un gd cn cs L a ccd cl outer) (call (.ref f) args) Q E s
theorem ConT.use {w : World} {f : Addr} {args : List Value} {dd uu : Nat} {news : Led} {S : Heap → Prop} {P : Kont} (C : ConT w f args dd uu news S P)
    {loose : List Str} {mean : ExcName → Option Value} {mg mb : Str → Option Value} {dp un : Nat} {gd : Option (List Code)} {cn : Str} {cs : Scope} {a : Addr} {ccd : Value} {cl : List (Str × Addr)} {outer : List Env} {A₀ : Around} {base h₀ : Heap} {L : Addr} {m : Str → Option Value} {h0 : Heap} {gg : Array GenState} {dd9 : Drawn} {tk0 : Nat} {oo : OsState}
    {Q E : Value → Shared → Prop}
    (B : Below A₀ base outer h₀) (F : Fr h₀ L h0 m) (X : (hdT.heap_1 w.params).In h₀) (N : News h₀ L h0 news) (T : Top topProg loose mean mg mb h₀) (XB : (hdT.heap_1 w.params).In base) (TB : Top topProg loose mean mg mb base) (hS : S base) (hk : cs.kind = .function) (hd' : dp + dd < recursionLimit) (hu : un + uu < cLine)
    (h : P (fun r news' => ∀ h₀' h' tk', KtsTurn (frs outer) h₀ h₀' → Below A₀ base outer h₀' → (hdT.heap_1 w.params).In h₀' → Top topProg loose mean mg mb h₀' → Fr h₀' L h' m → News h₀' L h' news' → Q r ⟨h', gg, dd9, tk', oo⟩)) :
    wpAny (model PySem.Challenge.rw_nt0006_01.row.prog w) (ktrTop dp un gd cn cs L a ccd cl outer) (call (.ref f) args) Q E ⟨h0, gg, dd9, tk0, oo⟩ :=
  C loose mean mg mb dp un gd cn cs a ccd cl outer A₀ base h₀ L m ⟨h0, gg, dd9, tk0, oo⟩ Q E B F X N T XB TB hS hk hd' hu h
-- PU
section
variable {prog : Program} {w : World} {A : Around} {E : Value → Shared → Prop} {KF : Frag}
theorem subK {M : Model} {s : Shared} {C : Addr} {base : Value} {r : Bool} {Q : Bool → Shared → Prop} (X : KF.In s.heap) (e : mroIn KF C base = some r) (h : Q r s) : wpAny M A (isSubtype (.ref C) base) Q E s := (looks_mroIn X e).here h
theorem excMatchesX {M : Model} {h : Heap} {g : Array GenState} {d : Drawn} {t : Nat} {os : OsState} {e C C' : Addr} {oe : Obj} {od : Option Addr} {cdat : ClassData} {sl : Array (Option Value)} {b : Bool} {Q : Bool → Shared → Prop}
    (X : KF.In h) (he : h.get? e = some oe) (hc : oe.cls = .ref C) (hC : KF.lookup C' = some ⟨.type "type", od, .cls cdat, sl⟩) (hb : mroIn KF C' (.type "BaseException") = some true) (hS : mroIn KF C (.ref C') = some b) (hq : Q b ⟨h, g, d, t, os⟩) :
    wpAny M A (excMatches (.ref e) (.ref C')) Q E ⟨h, g, d, t, os⟩ := by
  have hC' := X _ _ hC
  have f := tc_notTuple
  unfold excMatches
  repeat (first | (with_reducible refine wpAny_loadPart_at he ?_; rw [hc]) | with_reducible refine wpAny_loadPart_at hC' ?_ | with_reducible refine subK (s := ⟨h, g, d, t, os⟩) X hb ?_ | with_reducible refine subK (s := ⟨h, g, d, t, os⟩) X hS ?_ | wp_step)
  cases b
  · repeat wp_step
    exact hq
  · repeat wp_step
    exact hq
end
section
variable {prog : Program} {w : World} {A₀ A : Around} {E : Value → Shared → Prop} {s' : Shared} {base g G : Heap} {env : Env} {outer : List Env} {L a e C C' dx : Addr} {m : Str → Option Value} {name : Str} {scope : Scope} {cd : Value} {news : Led}
  {n : Str} {b₀ : Stmt} {suite : List Stmt} {pos np : Pos} {nm : Option Str} {body : List Stmt} {rest : List ExceptHandler} {Q : Flow → Shared → Prop} {KF : Frag}
  {p : Program} {loose : List Str} {mean : ExcName → Option Value} {mg mb : Str → Option Value} {x : Str} {od : Option Addr} {cdat : ClassData} {sl : Array (Option Value)}
theorem landX {M : Model} {Q : Shared → Prop} (R : RaisedX base G (env :: outer) e C dx news s'.heap) (hfr : A.frames = some (env :: outer)) (hf : env.frame = some L) (k : ∀ h', RaisedX base G (env :: outer) e C dx news h' → s'.heap.UpToSlots h' → Q { s' with heap := h' }) :
    wpAny M A (noteFrame (.ref e) env) (fun _ s₂ => wpAny M A (setFlight (.ref e) none) (fun _ s₃ => Q s₃) E s₂) E s' := by
  obtain ⟨B, hB, hBG, hl, hfl⟩ := R
  refine x_note hfr hf hfl fun h' x1 x2 => ?_
  exact x_flight x1 fun h'' y1 y2 => k h'' ⟨B, hB, hBG, hl, y1⟩ (x2.trans y2)
theorem memE {name : Str} {scope : Scope} {L a b : Addr} {cd : Value} {outer : List Env} (hm : b ∈ (envOf name scope L a cd :: outer).filterMap (·.frame)) : b = L ∨ b ∈ frs outer := kts_mem hm
theorem skipX (R : RaisedX base G (envOf name scope L a cd :: outer) e C dx news s'.heap) (F : Fr g L G m) (K : Below A₀ base outer g) (hsm : G.UpToSlots s'.heap) (XB : KF.In base) (TB : Top p loose mean mg mb base)
    (ex : nsIn KF mainGlobals x = some (some (.ref C'))) (hC : KF.lookup C' = some ⟨.type "type", od, .cls cdat, sl⟩) (hb : mroIn KF C' (.type "BaseException") = some true) (hS : mroIn KF C (.ref C') = some false)
    (h : wpAny (model prog w) (A₀.deeper (envOf name scope L a cd)) (handleBy (.ref e) (envOf name scope L a cd) rest) Q E s')
    (hk : scope.kind = .function := by rfl) (hx : (envOf name scope L a cd).kindOf x = some .globalImplicit := by rfl) (hd : (x == ("__debug__" : Str)) = false := by decide) :
    wpAny (model prog w) (A₀.deeper (envOf name scope L a cd)) (handleBy (.ref e) (envOf name scope L a cd) (.ExceptHandler (some (.Name x np)) nm body pos :: rest)) Q E s' := by
  obtain ⟨B, hB, hBG, hl, hfl⟩ := R
  obtain ⟨hkb, hen, hll, oe, vs, T, oT, ts, he, hX, hd', h1, hnT, hTe, hT, hdT, h3⟩ := hfl
  obtain ⟨g₅, T₅, F₅, K₅⟩ := ground_turn K F (fun b hb => memE hb) hBG hkb hsm
  refine wpAny_handleBy_cons (codeAny_handlers_test (name_K F₅ (XB.keeps K₅.stays) (topRead_of (TB.keeps K₅.stays)) ex ?_ hk hx hd)) (by intro q; cases q)
  obtain ⟨hh, gg, dd, tt, os⟩ := s'
  exact excMatchesX ((XB.keeps K₅.stays).keeps F₅.keep) he hX.1 hC hb hS h
theorem hitX (R : RaisedX base G (envOf name scope L a cd :: outer) e C dx news s'.heap) (F : Fr g L G m) (K : Below A₀ base outer g) (hsm : G.UpToSlots s'.heap) (XB : KF.In base) (TB : Top p loose mean mg mb base)
    (ex : nsIn KF mainGlobals x = some (some (.ref C'))) (hC : KF.lookup C' = some ⟨.type "type", od, .cls cdat, sl⟩) (hb : mroIn KF C' (.type "BaseException") = some true) (hS : mroIn KF C (.ref C') = some true)
    (k : ∀ h' g' vs tk, KtsTurn (frs outer) g g' → Fr g' L h' (fun y => if y = n then some (.ref e) else m y) → News g' L h' ((e, ⟨.ref C, some dx, .fields vs, #[]⟩) :: news) → Below A₀ base outer g' → KF.In g' → Top p loose mean mg mb g' →
      wpAny (model prog w) ((A₀.deeper (envOf name scope L a cd)).mark (some (.ref e))) (execs (b₀ :: suite) (envOf name scope L a cd))
        (fun f s₄ => wpAny (model prog w) (A₀.deeper (envOf name scope L a cd)) (do bindName (envOf name scope L a cd) n .none; unbindBehindTheSuite (envOf name scope L a cd) n pos) (fun _ s₅ => Q f s₅) E s₄)
        (AsSuiteRaised (model prog w) ((A₀.deeper (envOf name scope L a cd)).mark (some (.ref e))) (envOf name scope L a cd) n pos (notedBy (model prog w) ((A₀.deeper (envOf name scope L a cd)).mark (some (.ref e))) (envOf name scope L a cd) (cameBackBy (model prog w) (A₀.deeper (envOf name scope L a cd)) (envOf name scope L a cd) E)))
        { s' with heap := h', toks := tk })
    (hk : scope.kind = .function := by rfl) (hlo : (envOf name scope L a cd).kindOf n = some .local := by rfl) (hx : (envOf name scope L a cd).kindOf x = some .globalImplicit := by rfl) (hd : (x == ("__debug__" : Str)) = false := by decide) :
    wpAny (model prog w) (A₀.deeper (envOf name scope L a cd)) (handleBy (.ref e) (envOf name scope L a cd) (.ExceptHandler (some (.Name x np)) (some n) (b₀ :: suite) pos :: rest)) Q E s' := by
  obtain ⟨B, hB, hBG, hl, hfl⟩ := R
  have hfl' := hfl
  obtain ⟨hkb, hen, hll, oe, vs, T, oT, ts, he, hX, hd', h1, hnT, hTe, hT, hdT, h3⟩ := hfl
  obtain ⟨g₅, T₅, F₅, K₅⟩ := ground_turn K F (fun b hb => memE hb) hBG hkb hsm
  have hL : B.get? L = none := by
    obtain ⟨_, ⟨L', _, hf, hn', _⟩, _⟩ := hll
    obtain rfl : L = L' := Option.some.inj hf
    exact hn'
  refine wpAny_handleBy_cons (codeAny_handlers_test (name_K F₅ (XB.keeps K₅.stays) (topRead_of (TB.keeps K₅.stays)) ex ?_ hk hx hd)) (by intro q; cases q)
  obtain ⟨hh, gg, dd, tt, os⟩ := s'
  refine excMatchesX ((XB.keeps K₅.stays).keeps F₅.keep) he hX.1 hC hb hS (codeAny_handlers_suite_as ?_)
  refine x_flight hfl' fun h₆ y1 y2 => ?_
  obtain ⟨hkb, hen, hll, oe, vs, T, oT, ts, he, ⟨hX1, hX2, hX3⟩, hd', h1, hnT, hTe, hT, hdT, h3⟩ := y1
  obtain ⟨g₆, T₆, F₆, K₆⟩ := ground_turn K F (fun b hb => memE hb) hBG hkb (hsm.trans y2)
  have eoe : oe = ⟨.ref C, some dx, .fields vs, #[]⟩ := by
    obtain ⟨o1, o2, o3, o4⟩ := oe
    dsimp only at hX1 hX2 hX3 hd'
    subst hX1 hX2 hX3 hd'
    rfl
  subst eoe
  have ne₆ : g₆.get? e = none := by
    refine T₆.none_ _ ?_
    cases q : g.get? e with
    | none => rfl
    | some o =>
      by_cases hm : e ∈ frs outer
      · obtain ⟨_, o', ho', hnf⟩ := K.frames.mem hm
        rw [q] at ho'
        cases ho'
        obtain ⟨sl, hs⟩ := (hsm.trans y2) _ _ (F.keep _ _ q) hnf
        rw [he] at hs
        injection hs with hs
        injection hs with _ _ hs _
        exact absurd hs.symm (hnf _)
      · have := hBG e o (F.keep _ _ q) (fun hm' => by
          rcases memE hm' with z | z
          · rw [z, kts_self F] at q; cases q
          · exact hm z)
        rw [hen] at this
        cases this
  have Nl : News g₆ L h₆ news := fun q hq => ⟨hkb _ _ (hl q hq).1, (fun z => by have := (hl q hq).1; rw [z, hL] at this; cases this), T₆.none_ _ (kts_none F.keep (hl q hq).2.1)⟩
  have N₆ := News.more F₆ Nl he (fun es n q => by cases q) ne₆
  refine stN F₆ N₆ (fun h₇ F₇ N₇ => ?_) hk hlo
  exact k h₇ g₆ _ _ T₆ F₇ N₇ K₆ (XB.keeps K₆.stays) (TB.keeps K₆.stays)
end
-- PV
example : True := by w_top off; k_with_none; trivial
abbrev HeardP (PC : Kont) (PEC : (Addr → Value → Led → Prop) → Prop) : Kont := fun k =>
  PC (fun r n' => ∀ tp t, (∀ p ∈ n', p.1 ≠ tp) → k (.ref tp) ((tp, tupO [.str (Str.ofString "given") t, r]) :: n')) ∧
  PEC (fun C v n' => (C = 57 ∧ ∃ c u, v = .int c u ∧ ∀ tp t, (∀ p ∈ n', p.1 ≠ tp) → k (.ref tp) ((tp, tupO [.str (Str.ofString "code") t, v]) :: n')) ∨
    (C = 45 ∧ ∃ T l, v = .ref T ∧ (T, tupO l) ∈ n' ∧ ∀ tp t, (∀ p ∈ n', p.1 ≠ tp) → k (.ref tp) ((tp, tupO [.str (Str.ofString "encoding") t, v]) :: n')))
theorem con_heard (w : World) (news : Led) (f : Addr) (oc : Value) (od : Option Addr) (fd : FuncData) (sl : Array (Option Value)) (hf : (f, (⟨oc, od, .func fd, sl⟩ : Obj)) ∈ news) {dd uu : Nat} {PC : Kont} {PEC : (Addr → Value → Led → Prop) → Prop} (C : ConX w f [] dd uu news PC PEC)
    (hPC : ∀ k k' : Value → Led → Prop, (∀ r n, k r n → k' r n) → PC k → PC k') (hPE : ∀ k k' : Addr → Value → Led → Prop, (∀ c r n, k c r n → k' c r n) → PEC k → PEC k') :
    ConT w 232 [.ref f] (dd + 20) (uu + 200) news (fun _ => True) (HeardP PC PEC) := by
  k_with_none
  k_with "LeaveT" => (k_dflt (refine' leaveT_ ?z65k1 ?z65k2 ?z65k3 ?_; (case z65k1 => k_asm); (case z65k2 => k_asm); (case z65k3 => first | assumption | exact KtsTurn.refl | exact KtsTurn.trans (by assumption) (by assumption)); intro _ _ _ _ _ _ _; (try dsimp only); (try k_fold)))
  k_with_none
  k_with "LeaveT" => (k_dflt (refine' leaveT_ ?z65k1 ?z65k2 ?z65k3 ?_; (case z65k1 => k_asm); (case z65k2 => k_asm); (case z65k3 => first | assumption | exact KtsTurn.refl | exact KtsTurn.trans (by assumption) (by assumption)); intro _ _ _ _ _ _ _; (try dsimp only); (try k_fold)))
  unfold ConT
  intro loose mean mg mb dp un gd cn cs a ccd cl outer A₀ base h₀ L m s Q E B F X N T XB TB hS hk hdp hun hret
  refine wpAny_call ?_
  k_dflt (refine' code_defT ?k1 ?k2 ?k3 ?k4 ?k5 ?kXB ?kTB ?kA ?kF ?kK ?k6 ?k7 ?k8 ?k9 ?kB ?_ ?c2 ?c3 ?c4 ?c5; (case kXB => assumption); (case kTB => assumption); (case kA => exact rfl); (case kF => exact rfl); (case kK => assumption); (case k1 => k_asm); (case k2 => k_asm); (case k3 => k_asm); (case k4 => k_asm); (case k5 => k_asm); (case k6 => k_is); (case k7 => k_is); (case k8 => ktr_room); (case k9 => first | exact BindsTo.of_eq rfl | exact binds_K (by k_in) rfl (by k_is) rfl rfl rfl); (case c5 => decide); (case kB => exact locs rfl); (case c2 => exact rfl); (case c3 => exact rfl); (case c4 => exact rfl); k_whole; intro g' L' h' FG' F' N' B' X' T'; (try dsimp only); (try k_fold))
  refine enter_nm ?_
  intro q0 gg dd oo tk0 hq0
  refine nameAEX ?_
  intro Av Ev Xv
  replace F' : Fr g' L' h' (fun y => List.lookup y [(Str.ofString "call", .ref f)]) := fr_eq F' (by rfl)
  try generalize s.toks + List.length _ = tk0
  k_steps
  k_dflt (refine callWith_F0 (FnAt.of (by k_asm) hf) ?_)
  try dsimp only [List.nil_append]
  k_dflt (refine' ConX.use C ?k1 ?k2 ?k3 ?k4 ?k5 ?kK ?kd ?ku ?ok ?err)
  case k2 => k_asm
  case k4 => k_asm
  case k1 => k_asm
  case k3 => k_asm
  case k5 => k_asm
  case kK => rfl
  case kd => ktr_room
  case ku => ktr_units
  case ok =>
    refine hPC _ _ (fun r n hk9 h9 tk9 F9 N9 => ?_) hret.1
    k_steps
    exact hk9 _ _ (lt_ne (by assumption)) _ _ _ (by assumption) (by assumption) (by assumption) (by assumption) (by assumption) (by assumption)
  case err =>
    refine hPE _ _ (fun C v n hk9 e dx tk g₂ h' tk' R9 F9 U9 => ?_) hret.2
    refine landX R9 (Around.frames_deeper B'.stack) rfl fun h5 R5 U5 => ?_
    rcases hk9 with ⟨rfl, c9, u9, rfl, hk9⟩ | ⟨rfl, T9, l9, rfl, hT9, hk9⟩
    · refine hitX R5 F9 B' (U9.trans U5) XB TB (by k_dflt k_is) (by k_dflt k_is) (by k_dflt k_is) (by k_dflt k_is) fun h6 g6 vs6 tk6 T6 F6 N6 B6 X6 P6 => ?_
      k_steps
      k_dflt (refine xget (K := hdT.heap_1 w.params) (v := .int c9 u9) (X6.keeps F6.keep) (N6 _ (.head _)).1 (N6 _ (.tail _ (.head _))).1 (by k_dflt k_is) (by k_dflt k_is) (by k_dflt k_is) (by rfl) rfl ?_)
      k_steps
      rename _ < _ ∧ _ < _ ∧ AllLt _ n => hal9
      exact hk9 _ _ (fun p hp => Nat.ne_of_lt (tb_ltOf hal9.2.2 p hp)) _ _ _ (by assumption) (by assumption) (by assumption) (by assumption) (by assumption) (news_sub (by assumption) fun p hp => by
        rcases List.mem_cons.mp hp with rfl | hp
        · exact .head _
        · exact .tail _ (.tail _ (.tail _ hp)))
    · refine skipX R5 F9 B' (U9.trans U5) XB TB (by k_dflt k_is) (by k_dflt k_is) (by k_dflt k_is) (by k_dflt k_is) ?_
      refine hitX R5 F9 B' (U9.trans U5) XB TB (by k_dflt k_is) (by k_dflt k_is) (by k_dflt k_is) (by k_dflt k_is) fun h6 g6 vs6 tk6 T6 F6 N6 B6 X6 P6 => ?_
      k_steps
      k_dflt (refine xget (K := hdT.heap_1 w.params) (v := .ref T9) (X6.keeps F6.keep) (N6 _ (.head _)).1 (N6 _ (.tail _ (.head _))).1 (by k_dflt k_is) (by k_dflt k_is) (by k_dflt k_is) (by rfl) rfl ?_)
      k_steps
      k_dflt (refine call_tuple_tup (items := l9.toArray) ⟨_, (N6 _ (.tail _ (.tail _ hT9))).1, rfl, _, rfl⟩ ?_)
      k_steps
      rename _ < _ ∧ _ < _ ∧ AllLt _ n => hal9
      exact hk9 _ _ (fun p hp => Nat.ne_of_lt (tb_ltOf hal9.2.2 p hp)) _ _ _ (by assumption) (by assumption) (by assumption) (by assumption) (by assumption) (news_sub (by assumption) fun p hp => by
        rcases List.mem_cons.mp hp with rfl | hp
        · exact .head _
        · exact .tail _ (.tail _ (.tail _ hp)))
-- PX
example : True := by w_top off; k_with_none; trivial
noncomputable def TextP (us : List Int) (news : Led) : Kont := fun k => (∀ i, i < us.length → okAt us i = true) → ∀ l vs' n', IntsAre vs' (textL us us.length) → (∀ p ∈ news, p.1 < l) → k (.ref l) ((l, listOf vs'.toArray n') :: news)
noncomputable def TextPE (us : List Int) (news : Led) : (Addr → Value → Led → Prop) → Prop := fun k => (∀ i t, i < us.length → (∀ j, j < i → okAt us j = true) → inR (us.getD i 0) = false → k 57 (.int (us.getD i 0) t) news) ∧ (∀ i t u tp, i < us.length → (∀ j, j < i → okAt us j = true) → inR (us.getD i 0) = true → faultS us i ≠ "" → k 45 (.ref tp) ((tp, tupO [.int (2 * i) t, .str (Str.ofString (faultS us i)) u]) :: news))
theorem con_heard_text (w : World) (news : Led) (f : Addr) (oc : Value) (od : Option Addr) (fd : FuncData) (sl : Array (Option Value)) (hf : (f, (⟨oc, od, .func fd, sl⟩ : Obj)) ∈ news) {dd uu : Nat} {us : List Int} (C : ConX w f [] dd uu news (TextP us news) (TextPE us news)) :
    ConT w 232 [.ref f] (dd + 20) (uu + 200) news (fun _ => True) (fun k =>
      ((∀ i, i < us.length → okAt us i = true) → ∀ l vs' n', IntsAre vs' (textL us us.length) → (∀ p ∈ news, p.1 < l) → ∀ tp t, (∀ p ∈ (l, listOf vs'.toArray n') :: news, p.1 ≠ tp) → k (.ref tp) ((tp, tupO [.str (Str.ofString "given") t, .ref l]) :: (l, listOf vs'.toArray n') :: news)) ∧
      (∀ i u, i < us.length → (∀ j, j < i → okAt us j = true) → inR (us.getD i 0) = false → ∀ tp t, (∀ p ∈ news, p.1 ≠ tp) → k (.ref tp) ((tp, tupO [.str (Str.ofString "code") t, .int (us.getD i 0) u]) :: news)) ∧
      (∀ i u v T, i < us.length → (∀ j, j < i → okAt us j = true) → inR (us.getD i 0) = true → faultS us i ≠ "" → ∀ tp t, (∀ p ∈ (T, tupO [.int (2 * i) u, .str (Str.ofString (faultS us i)) v]) :: news, p.1 ≠ tp) → k (.ref tp) ((tp, tupO [.str (Str.ofString "encoding") t, .ref T]) :: (T, tupO [.int (2 * i) u, .str (Str.ofString (faultS us i)) v]) :: news))) := by
  intro loose mean mg mb dp un gd cn cs a ccd cl outer A₀ base h₀ L m s Q E B F X N T XB TB hS hk hdp hun hret
  refine con_heard w news f oc od fd sl hf C ?_ ?_ loose mean mg mb dp un gd cn cs a ccd cl outer A₀ base h₀ L m s Q E B F X N T XB TB hS hk hdp hun ?_
  · intro k k' hkk h hall l vs' n' h1 h2
    exact hkk _ _ (h hall l vs' n' h1 h2)
  · rintro k k' hkk ⟨h1, h2⟩
    exact ⟨fun i t a b c => hkk _ _ _ (h1 i t a b c), fun i t u tp a b c d => hkk _ _ _ (h2 i t u tp a b c d)⟩
  · obtain ⟨r1, r2, r3⟩ := hret
    refine ⟨fun hall l vs' n' h1 h2 tp t h3 => r1 hall l vs' n' h1 h2 tp t h3, fun i t a b c => .inl ⟨rfl, _, _, rfl, fun tp t' h3 => r2 i t a b c tp t' h3⟩, fun i t u tp a b c d => .inr ⟨rfl, _, _, rfl, .head _, fun tp' t' h3 => r3 i t u tp a b c d tp' t' h3⟩⟩
theorem shaped_given (X : List Int) : SeqAt.shaped (.tuple [.str (Str.ofString "given"), .list (X.map PyData.int)]) = true := by
  have : PyData.strOk (Str.ofString "given") = true := by decide +kernel
  simp [SeqAt.shaped, PyData.canLay0, PyData.canLayAll0, PyData.depth, PyData.depthAll, ke_canLayAll0, ke_depthAll, this]
theorem ne_given {prog : Program} {w : World} {A : Around} {E : Value → Shared → Prop} {s : Shared} {h₀ : Heap} {L : Addr} {news : Led} {Q : Value → Shared → Prop} {tp l tp' l' : Addr} {t t' : Tok} {vs vs' : List Value} {n n' : Nat} {X : List Int}
    (N : News h₀ L s.heap news) (h1 : (tp, tupO [.str (Str.ofString "given") t, .ref l]) ∈ news) (h2 : (l, listOf vs.toArray n) ∈ news) (i1 : IntsAre vs X) (h3 : (tp', tupO [.str (Str.ofString "given") t', .ref l']) ∈ news) (h4 : (l', listOf vs'.toArray n') ∈ news) (i2 : IntsAre vs' X) (hu : A.units + 64 < cLine) (h : Q (.bool false) s) :
    wpAny (model prog w) A (compareOp .NotEq (.ref tp) (.ref tp')) Q E s := by
  refine ne_dataH (reads_tuple_at (N _ h1).1 rfl rfl (.cons (.str _ _) (.cons (reads_newData ⟨_, (N _ h2).1, rfl, _, rfl⟩ (ke_carried i1)) .nil))) (reads_tuple_at (N _ h3).1 rfl rfl (.cons (.str _ _) (.cons (reads_newData ⟨_, (N _ h4).1, rfl, _, rfl⟩ (ke_carried i2)) .nil))) (shaped_given _) (shaped_given _) hu ?_
  rw [show PyData.eqv (.tuple [.str (Str.ofString "given"), .list (X.map PyData.int)]) (.tuple [.str (Str.ofString "given"), .list (X.map PyData.int)]) = true by simp [PyData.eqv, PyData.eqvAll, ked_eqvAll]]
  exact h
theorem con_heard_one (w : World) (news : Led) (f : Addr) (oc : Value) (od : Option Addr) (fd : FuncData) (sl : Array (Option Value)) (hf : (f, (⟨oc, od, .func fd, sl⟩ : Obj)) ∈ news) {dd uu : Nat} {odd : Int} (C : ConX w f [] dd uu news (fun _ => True) (fun k => ∀ t, k 57 (.int odd t) news)) :
    ConT w 232 [.ref f] (dd + 20) (uu + 200) news (fun _ => True) (fun k => ∀ u tp t, (∀ p ∈ news, p.1 ≠ tp) → k (.ref tp) ((tp, tupO [.str (Str.ofString "code") t, .int odd u]) :: news)) := by
  intro loose mean mg mb dp un gd cn cs a ccd cl outer A₀ base h₀ L m s Q E B F X N T XB TB hS hk hdp hun hret
  refine con_heard w news f oc od fd sl hf C ?_ ?_ loose mean mg mb dp un gd cn cs a ccd cl outer A₀ base h₀ L m s Q E B F X N T XB TB hS hk hdp hun ?_
  · intro k k' _ h
    exact h
  · intro k k' hkk h t
    exact hkk _ _ _ (h t)
  · exact ⟨trivial, fun u => .inl ⟨rfl, _, _, rfl, fun tp t h => hret u tp t h⟩⟩
-- PW
example : True := by w_top off; k_with_none; trivial
namespace Nw
theorem sub_swap {x b c : Led} : ∀ p ∈ b ++ (x ++ c), p ∈ x ++ (b ++ c) := fun p hp => by
  simp only [List.mem_append] at hp ⊢
  rcases hp with h | h | h
  · exact .inr (.inl h)
  · exact .inl h
  · exact .inr (.inr h)
theorem sub_turn {x y b c own : Led} : ∀ p ∈ (b ++ (x ++ c)) ++ own, p ∈ x ++ (y ++ (b ++ (c ++ own))) := fun p hp => by
  simp only [List.mem_append] at hp ⊢
  rcases hp with (h | h | h) | h
  · exact .inr (.inr (.inl h))
  · exact .inl h
  · exact .inr (.inr (.inr (.inl h)))
  · exact .inr (.inr (.inr (.inr h)))
theorem off_mid {wr : List Addr} {a : Addr} {o : Obj} {b c : Led} (h : Off wr (b ++ c)) (ha : a ∉ wr) : Off wr (b ++ ((a, o) :: c)) := fun p hp => by
  rcases List.mem_append.mp hp with hp | hp
  · exact h p (List.mem_append_left _ hp)
  · rcases List.mem_cons.mp hp with rfl | hp
    · exact ha
    · exact h p (List.mem_append_right _ hp)
theorem ok_fault {us : List Int} {i : Nat} (h : okAt us i = true) : faultS us i = "" := by
  simp only [okAt, Bool.and_eq_true, decide_eq_true_eq] at h
  exact h.2
theorem strs_item {vs : List Value} {ns : List Str} (h : StrsAre vs ns) {i : Nat} {v : Value} (e : vs[i]? = some v) : i < ns.length ∧ ∃ t, v = .str (ns.getD i Str.empty) t := by
  induction h generalizing i with
  | nil => cases e
  | cons a b _ ih =>
    cases i with
    | zero => obtain rfl := Option.some.inj e; exact ⟨Nat.zero_lt_succ _, _, rfl⟩
    | succ i => obtain ⟨h1, h2⟩ := ih (i := i) (by simpa using e); exact ⟨Nat.succ_lt_succ h1, by simpa using h2⟩
inductive DuA (un : List Int) (nw1 : Led) (i : Nat) (Du : Addr) : Prop
  | mk : (∀ j, j < i → okAt un j = true) → ∀ t, (Du, tupO [.str (Str.ofString "given") t, .none]) ∈ nw1 → DuA un nw1 i Du
inductive DuB (un : List Int) (nw1 : Led) (i : Nat) (Du : Addr) : Prop
  | mk : ∀ j t u, j < i → (∀ j', j' < j → okAt un j' = true) → inR (un.getD j 0) = false → (Du, tupO [.str (Str.ofString "code") t, .int (un.getD j 0) u]) ∈ nw1 → DuB un nw1 i Du
inductive DuC (un : List Int) (nw1 : Led) (i : Nat) (Du : Addr) : Prop
  | mk : ∀ j t u v Tp, j < i → (∀ j', j' < j → okAt un j' = true) → inR (un.getD j 0) = true → faultS un j ≠ "" → (Du, tupO [.str (Str.ofString "encoding") t, .ref Tp]) ∈ nw1 → (Tp, tupO [.int (2 * j) u, .str (Str.ofString (faultS un j)) v]) ∈ nw1 → DuC un nw1 i Du
inductive DuD (un : List Int) (nw1 : Led) (Du : Addr) : Prop
  | mk : (∀ j, j < un.length → okAt un j = true) → ∀ t Cl vc nc, (Du, tupO [.str (Str.ofString "given") t, .ref Cl]) ∈ nw1 → (Cl, listOf vc.toArray nc) ∈ nw1 → IntsAre vc (codesW un) → DuD un nw1 Du
noncomputable def DueAt (un : List Int) (nw1 : Led) (i : Nat) (Du : Addr) : Prop := DuA un nw1 i Du ∨ DuB un nw1 i Du ∨ DuC un nw1 i Du
noncomputable def FinDue (un : List Int) (nw1 : Led) (Du : Addr) : Prop := DuD un nw1 Du ∨ DuB un nw1 un.length Du ∨ DuC un nw1 un.length Du
inductive WrD (g : Heap) (L' TP TL : Addr) (p9 : Int) (t9 : Tok) (n9 : Nat) (o1 o2 o3 o4 : Obj) (Un : Addr) (vn : List Value) (un : List Int) (nn : Nat) (news : Led) (s : Shared) (f : Flow) (s' : Shared) : Prop
  | mk : (f = .next) → ∀ h tk nw1 Du m, (s' = { s with heap := h, toks := tk }) → (Fr g L' h m) → (Kp [Str.ofString "k", Str.ofString "word", Str.ofString "way"] (fun y => if y = Str.ofString "due" then some (.ref Du) else if y = Str.ofString "tape" then some (.ref TP) else none) m) → (News g L' h ((L' + 1 + 1 + 1 + 1, o1) :: (L' + 1 + 1 + 1, o2) :: (L' + 1 + 1, o3) :: (L' + 1, o4) :: (258, tabObj #[]) :: (TP, listOf [Value.ref TL, .int p9 t9].toArray n9) :: nw1)) → (FinDue un nw1 Du) → ((Un, listOf vn.toArray nn) ∈ nw1) → ((∀ p ∈ news, p ∈ nw1)) → ((∀ p ∈ nw1, p.1 ≠ TP)) → ((∀ p ∈ nw1, p.1 ≠ 258)) → ((∀ p ∈ nw1, p.1 ≠ L' + 1)) → ((∀ p ∈ nw1, p.1 ≠ L' + 1 + 1)) → ((∀ p ∈ nw1, p.1 ≠ L' + 1 + 1 + 1)) → ((∀ p ∈ nw1, p.1 ≠ L' + 1 + 1 + 1 + 1)) → WrD g L' TP TL p9 t9 n9 o1 o2 o3 o4 Un vn un nn news s f s'
theorem sub_three {x y b c : Led} : ∀ p ∈ b ++ (x ++ c), p ∈ x ++ (y ++ (b ++ c)) := fun p hp => by
  simp only [List.mem_append] at hp ⊢
  rcases hp with h | h | h
  · exact .inr (.inr (.inl h))
  · exact .inl h
  · exact .inr (.inr (.inr h))
theorem sub_mid {a : Addr × Obj} {x b c : Led} : ∀ p ∈ b ++ (a :: c), p ∈ a :: (x ++ (b ++ c)) := fun p hp => by
  simp only [List.mem_append, List.mem_cons] at hp ⊢
  rcases hp with h | h | h
  · exact .inr (.inr (.inl h))
  · exact .inl h
  · exact .inr (.inr (.inr h))
inductive WrE (G : Heap → Prop) (L' TP TL : Addr) (p9 : Int) (t9 : Tok) (n9 : Nat) (o1 o2 o3 o4 : Obj) (nw2 : Led) (s : Shared) (f : Flow) (s' : Shared) : Prop
  | mk : (f = .next) → ∀ g2 h tk m c9, (s' = { s with heap := h, toks := tk }) → (G g2) → (Fr g2 L' h m) → (Kp [Str.ofString "k", Str.ofString "word", Str.ofString "way", Str.ofString "due"] (fun y => if y = Str.ofString "tape" then some (.ref TP) else none) m) → (News g2 L' h ((L' + 1 + 1 + 1 + 1, o1) :: (L' + 1 + 1 + 1, o2) :: (L' + 1 + 1, o3) :: (L' + 1, o4) :: (258, tabObj (#[] ++ #[rawInt ((201 : Nat) : Int), rawInt ((18 : Nat) : Int), .ref c9])) :: (TP, listOf [Value.ref TL, .int p9 t9].toArray n9) :: nw2)) → WrE G L' TP TL p9 t9 n9 o1 o2 o3 o4 nw2 s f s'
theorem ok_in {us : List Int} {i : Nat} (h : okAt us i = true) : inR (us.getD i 0) = true := by
  simp only [okAt, Bool.and_eq_true, decide_eq_true_eq] at h
  exact h.1
theorem first_eq {p : Nat → Prop} {i j : Nat} (hi : ∀ k, k < i → p k) (hj : ∀ k, k < j → p k) (ni : ¬ p i) (nj : ¬ p j) : i = j := by
  rcases Nat.lt_trichotomy i j with h | h | h
  · exact absurd (hj i h) ni
  · exact h
  · exact absurd (hi j h) nj
theorem sub_two {a y : Addr × Obj} {c : Led} : ∀ p ∈ a :: c, p ∈ a :: y :: c := fun p hp => by
  simp only [List.mem_cons] at hp ⊢
  rcases hp with h | h
  · exact .inl h
  · exact .inr (.inr h)
theorem sub_end {x : Led} {a b : Addr × Obj} {news nw : Led} (h : ∀ p ∈ news, p ∈ nw) : ∀ p ∈ a :: b :: news, p ∈ x ++ (a :: b :: nw) := fun p hp => List.mem_append_right _ (by
  rcases List.mem_cons.mp hp with rfl | hp
  · exact .head _
  · rcases List.mem_cons.mp hp with rfl | hp
    · exact .tail _ (.head _)
    · exact .tail _ (.tail _ (h p hp)))
theorem RaisedX.sub {base G : Heap} {l : List Env} {e C dx : Addr} {n1 n2 : Led} {h : Heap} (R : RaisedX base G l e C dx n1 h) (hs : ∀ p ∈ n2, p ∈ n1) : RaisedX base G l e C dx n2 h := by
  obtain ⟨B, a, b, c, d⟩ := R
  exact ⟨B, a, b, fun q hq => c q (hs q hq), d⟩
theorem sub_due {x : Led} {a : Addr × Obj} {c : Led} : ∀ p ∈ a :: c, p ∈ a :: (x ++ c) := fun p hp => by
  rcases List.mem_cons.mp hp with rfl | hp
  · exact .head _
  · exact .tail _ (List.mem_append_right _ hp)
theorem odd_bad (v : Int) (h0 : 0 ≤ v) (h1 : v < 4) : isScal (([55296, 57343, 1114112, -1] : List Int).getD v.toNat 0) = false := by
  exact int_cases (P := fun v => isScal (([55296, 57343, 1114112, -1] : List Int).getD v.toNat 0) = false) 4 (by decide) h0 h1
theorem odd_all {o : Obj} {v : Int} {t : Tok} (d : o.data = .cell (some (.int (([55296, 57343, 1114112, -1] : List Int).getD v.toNat 0) t))) (h0 : 0 ≤ v) (h1 : v < 4) : ∃ O, isScal O = false ∧ o.data = .cell (some (.int O t)) := ⟨_, odd_bad v h0 h1, d⟩
theorem find_odd (xs : List Int) (a b : Nat) (o : Int) (h : ∀ c ∈ xs, isScal c = true) (ho : isScal o = false) : (xs.take a ++ [o] ++ xs.drop b).find? (fun c => !isScal c) = some o := by
  have h1 : (xs.take a).find? (fun c => !isScal c) = none := List.find?_eq_none.mpr fun c hc => by rw [h c (List.mem_of_mem_take hc)]; decide
  rw [List.append_assoc, List.find?_append, h1]
  simp [ho]
inductive WrR (g : Heap) (L' TP TL V : Addr) (news : Led) (s : Shared) (f : Flow) (s' : Shared) : Prop
  | mk : (f = .next) → ∀ h tk nw o1 o2 o3 o4 Un vn un nn p' t' n' m at_ ta, (s' = { s with heap := h, toks := tk }) → (Fr g L' h m) → (Kp [Str.ofString "way"] (fun y => if y = Str.ofString "tape" then some (.ref TP) else none) m) → (News g L' h ((L' + 1 + 1 + 1 + 1, o1) :: (L' + 1 + 1 + 1, o2) :: (L' + 1 + 1, o3) :: (L' + 1, o4) :: (258, tabObj #[]) :: (TP, listOf [Value.ref TL, .int p' t'].toArray n') :: nw)) → (o1.data = .cell none) → (o2.data = .cell (some (.int at_ ta))) → (o3.data = .cell (some (.ref V))) → (o4.data = .cell (some (.ref Un))) → ((Un, listOf vn.toArray nn) ∈ nw) → (IntsAre vn un) → (un.length ≤ 24) → (0 ≤ p') → ((∀ p ∈ news, p ∈ nw)) → ((∀ p ∈ nw, p.1 ≠ TP)) → ((∀ p ∈ nw, p.1 ≠ 258)) → ((∀ p ∈ nw, p.1 ≠ L' + 1)) → ((∀ p ∈ nw, p.1 ≠ L' + 1 + 1)) → ((∀ p ∈ nw, p.1 ≠ L' + 1 + 1 + 1)) → ((∀ p ∈ nw, p.1 ≠ L' + 1 + 1 + 1 + 1)) → WrR g L' TP TL V news s f s'
theorem list_copyI {prog : Program} {w : World} {A : Around} {E : Value → Shared → Prop} {s : Shared} {h₀ : Heap} {L : Addr} {m : Str → Option Value} {news : Led} {Q : Value → Shared → Prop} {l : Addr} {vs : List Value} {us : List Int} {k : Nat} (F : Fr h₀ L s.heap m) (N : News h₀ L s.heap news) (hm : (l, listOf vs.toArray k) ∈ news) (hi : IntsAre vs us) (hlen : us.length ≤ 1000)
    (h : ∀ D c h', Fr h₀ L h' m → News h₀ L h' ((D, listOf vs.toArray c) :: news) → (∀ q ∈ news, q.1 < D) → Q (.ref D) { s with heap := h' }) : wpAny (model prog w) A (call (.type "list") [.ref l]) Q E s :=
  list_copyK F N (N.isList hm) h (by rw [List.size_toArray, IntsAre.length hi, sizeLine_eq]; omega)
inductive JWa (L' : Addr) (o1 : Obj) (o2 : Obj) (o3 : Obj) (o4 : Obj) (TP : Addr) (TL : Addr) (p9 : Int) (t9 : Tok) (n9 : Nat) (un : List Int) (Un : Addr) (vn : List Value) (nn : Nat) (news : Led) (c9 : Option Value) (i : Nat) (m₁ : Str → Option Value) (n₁ : Led) : Prop
  | mk : ∀ nw1 Du, (n₁ = (L' + 1 + 1 + 1 + 1, o1) :: (L' + 1 + 1 + 1, o2) :: (L' + 1 + 1, o3) :: (L' + 1, o4) :: (258, tabObj #[]) :: (TP, listOf [Value.ref TL, .int p9 t9].toArray n9) :: nw1) → (DueAt un nw1 i Du) → ((Un, listOf vn.toArray nn) ∈ nw1) → ((∀ p ∈ news, p ∈ nw1)) → ((∀ p ∈ nw1, p.1 ≠ TP)) → ((∀ p ∈ nw1, p.1 ≠ 258)) → ((∀ p ∈ nw1, p.1 ≠ L' + 1)) → ((∀ p ∈ nw1, p.1 ≠ L' + 1 + 1)) → ((∀ p ∈ nw1, p.1 ≠ L' + 1 + 1 + 1)) → ((∀ p ∈ nw1, p.1 ≠ L' + 1 + 1 + 1 + 1)) → (Kp [Str.ofString "k", Str.ofString "word"] (fun y => if y = Str.ofString "due" then some (.ref Du) else if y = Str.ofString "way" then c9 else if y = Str.ofString "tape" then some (.ref TP) else none) m₁) → JWa L' o1 o2 o3 o4 TP TL p9 t9 n9 un Un vn nn news c9 i m₁ n₁
theorem con_wrong (w : World) (news : Led) (TP TL U V : Addr) (pos : Int) (t : Tok) (n k nu nv : Nat) (vs vu vv : List Value) (ns us cs9 : List Int) (hP : ∀ p ∈ news, p.1 ≠ 258) (hPT : TP ≠ 258) (hT : ∀ p ∈ news, p.1 ≠ TP) (hTL : (TL, listOf vs.toArray k) ∈ news) (hi : IntsAre vs ns) (hlen : ns.length ≤ 60) (hp : 0 ≤ pos) (hU : (U, listOf vu.toArray nu) ∈ news) (hu : IntsAre vu us) (hul : us.length ≤ 20) (hV : (V, listOf vv.toArray nv) ∈ news) (hv : IntsAre vv cs9) (hvl : cs9.length ≤ 20) (hsc : ∀ c ∈ cs9, isScal c = true) :
    ConT w 263 [.ref TP, .ref U, .ref V] 200 2000 ((258, tabObj #[]) :: (TP, listOf [Value.ref TL, .int pos t].toArray n) :: news) (fun b => CodeHd b 262 258) (fun k => ∀ T1 p' t' n', 0 ≤ p' → k (.bool true) ((258, tabObj T1) :: (TP, listOf [Value.ref TL, .int p' t'].toArray n') :: news)) := by
  k_with_none
  k_with "LeaveT" => (k_dflt (refine' leaveT_ ?z66k1 ?z66k2 ?z66k3 ?_; (case z66k1 => k_asm); (case z66k2 => k_asm); (case z66k3 => first | assumption | exact KtsTurn.refl | exact KtsTurn.trans (by assumption) (by assumption)); intro _ _ _ _ _ _ _; (try dsimp only); (try k_fold)))
  k_with "callWith ref" => (k_here; k_dflt (refine' callWith_K ?z67k1 ?z67k2 ?_; (case z67k1 => k_asm); (case z67k2 => k_is); k_whole))
  k_with "exec Assign" => ((with_reducible show wpAny _ _ (exec (Stmt.Assign [Expr.Tuple _ _ _] _ _) _) _ _ _); refine Assign_Tuple ?_)
  k_with "call ref" => (k_here; k_dflt (refine' Con.use ?z69kC ?z69k1 ?z69k2 ?z69k3 ?z69k4 ?z69k5 ?z69kK ?z69kd ?z69ku ?_; (case z69k2 => k_asm); (case z69k4 => k_asm); (case z69kC => first | (refine' con_draw _ _ _ _ _ _ _ _ _ _ _ _ _ ?z69a1 ?z69a2 ?z69a3 ?z69a4 ?z69a5 ?z69a6 ?z69a7; (case z69a1 => k_updF); (case z69a2 => k_mem); (case z69a3 => assumption); (case z69a4 => assumption); (case z69a5 => assumption); (case z69a6 => omega); (case z69a7 => omega))); (case z69k1 => k_asm); (case z69k3 => k_asm); (case z69k5 => k_asm); (case z69kK => first | exact rfl | assumption); (case z69kd => ktr_room); (case z69ku => ktr_units); intro _ _ _ _ _ _ _ _ _ _; (try dsimp only); (try k_fold)))
  k_with "call ref" => (k_here; k_dflt (refine' Con.use ?z70kC ?z70k1 ?z70k2 ?z70k3 ?z70k4 ?z70k5 ?z70kK ?z70kd ?z70ku ?_; (case z70k2 => k_asm); (case z70k4 => k_asm); (case z70kC => first | (refine' con_words _ _ _ _ _ _ ?z70a1 ?z70a2 ?z70a3; (case z70a1 => k_mem); (case z70a2 => assumption); (case z70a3 => omega))); (case z70k1 => k_asm); (case z70k3 => k_asm); (case z70k5 => k_asm); (case z70kK => first | exact rfl | assumption); (case z70kd => ktr_room); (case z70ku => ktr_units); intro _ _ _ _ _ _ _ _ _; (try dsimp only); (try k_fold)))
  k_with "call ref" => (k_here; k_dflt (refine' Con.use ?z71kC ?z71k1 ?z71k2 ?z71k3 ?z71k4 ?z71k5 ?z71kK ?z71kd ?z71ku ?_; (case z71k2 => k_asm); (case z71k4 => k_asm); (case z71kC => first | (refine' con_codes _ _ _ _ _ _ ?z71a1 ?z71a2 ?z71a3 ?z71a4; (case z71a1 => k_mem); (case z71a2 => assumption); (case z71a3 => omega); (case z71a4 => assumption))); (case z71k1 => k_asm); (case z71k3 => k_asm); (case z71k5 => k_asm); (case z71kK => first | exact rfl | assumption); (case z71kd => ktr_room); (case z71ku => ktr_units); intro _ _ _ _ _ _ _ _ _; (try dsimp only); (try k_fold)))
  k_with "compareOp NotEq ref ref" => (k_here; (with_reducible show wpAny _ _ (compareOp CmpOp.NotEq (Value.ref _) (Value.ref _)) _ _ _); k_dflt (refine' ne_given ?z72gN ?z72g1 ?z72g2 ?z72g3 ?z72g4 ?z72g5 ?z72g6 ?z72gu ?_; (case z72gN => k_asm); (case z72g1 => k_mem); (case z72g4 => k_mem); (case z72g2 => k_mem); (case z72g3 => assumption); (case z72g5 => k_mem); (case z72g6 => assumption); (case z72gu => ke_room); k_whole))
  k_with "call ref" => (k_here; k_dflt (refine' ConX.use ?z73kC ?z73k1 ?z73k2 ?z73k3 ?z73k4 ?z73k5 ?z73kK ?z73kd ?z73ku ?_ ?_; (case z73k2 => k_asm); (case z73k4 => k_asm); (case z73kC => first | (refine' con_text _ _ _ _ _ _ ?z73a1 ?z73a2 ?z73a3; (case z73a1 => k_mem); (case z73a2 => assumption); (case z73a3 => omega))); (case z73k1 => k_asm); (case z73k3 => k_asm); (case z73k5 => k_asm); (case z73kK => first | exact rfl | assumption); (case z73kd => ktr_room); (case z73ku => ktr_units); intro _ _ _ _ _ _ _ _ _ _; (try dsimp only); (try k_fold); rotate_left; (refine ⟨?_, ?_⟩); (try dsimp only); rotate_right))
  k_with "call ref" => (k_here; k_dflt (refine' ConX.use ?z74kC ?z74k1 ?z74k2 ?z74k3 ?z74k4 ?z74k5 ?z74kK ?z74kd ?z74ku ?_ ?_; (case z74k2 => k_asm); (case z74k4 => k_asm); (case z74kC => first | (refine' con_units _ _ _ _ _ _ ?z74a1 ?z74a2 ?z74a3; (case z74a1 => k_mem); (case z74a2 => assumption); (case z74a3 => (simp only [List.length_append, List.length_take, List.length_drop, List.length_cons, List.length_nil]; omega)))); (case z74k1 => k_asm); (case z74k3 => k_asm); (case z74k5 => k_asm); (case z74kK => first | exact rfl | assumption); (case z74kd => ktr_room); (case z74ku => ktr_units); intro _ _ _ _ _ _ h9 tk9 _ _; (try dsimp only); (try k_fold); rotate_left; intro _ _ _ _ _ _ _ _ _ _ _ _; (try dsimp only); rotate_right))
  k_with "eval Name" => (k_here; (with_reducible show wpAny _ _ (eval (Expr.Name _ _) (envX _ _ _ _ _ _)) _ _ _); k_dflt (refine' nameX_F ?z75N ?z75c ?z75m ?z75d ?_ ?z75a ?z75b; (case z75a => rfl); (case z75b => rfl); (case z75N => k_asm); (case z75c => rfl); (case z75m => k_mem); (case z75d => k_asm); k_whole))
  k_with "call type:list" => (k_here; (with_reducible show wpAny _ _ (call (Value.type _) [Value.ref _]) _ _ _); k_dflt (refine' list_copyI ?z76F ?z76N ?z76m ?z76i ?z76z ?_; (case z76F => k_asm); (case z76N => k_asm); (case z76m => k_mem); (case z76i => assumption); (case z76z => omega)); intro _ _ _ _ _ _)
  k_with_none
  k_with "LeaveT" => (k_dflt (refine' leaveT_ ?z66k1 ?z66k2 ?z66k3 ?_; (case z66k1 => k_asm); (case z66k2 => k_asm); (case z66k3 => first | assumption | exact KtsTurn.refl | exact KtsTurn.trans (by assumption) (by assumption)); intro _ _ _ _ _ _ _; (try dsimp only); (try k_fold)))
  k_with "callWith ref" => (k_here; k_dflt (refine' callWith_K ?z67k1 ?z67k2 ?_; (case z67k1 => k_asm); (case z67k2 => k_is); k_whole))
  k_with "exec Assign" => ((with_reducible show wpAny _ _ (exec (Stmt.Assign [Expr.Tuple _ _ _] _ _) _) _ _ _); refine Assign_Tuple ?_)
  k_with "call ref" => (k_here; k_dflt (refine' Con.use ?z69kC ?z69k1 ?z69k2 ?z69k3 ?z69k4 ?z69k5 ?z69kK ?z69kd ?z69ku ?_; (case z69k2 => k_asm); (case z69k4 => k_asm); (case z69kC => first | (refine' con_draw _ _ _ _ _ _ _ _ _ _ _ _ _ ?z69a1 ?z69a2 ?z69a3 ?z69a4 ?z69a5 ?z69a6 ?z69a7; (case z69a1 => k_updF); (case z69a2 => k_mem); (case z69a3 => assumption); (case z69a4 => assumption); (case z69a5 => assumption); (case z69a6 => omega); (case z69a7 => omega))); (case z69k1 => k_asm); (case z69k3 => k_asm); (case z69k5 => k_asm); (case z69kK => first | exact rfl | assumption); (case z69kd => ktr_room); (case z69ku => ktr_units); intro _ _ _ _ _ _ _ _ _ _; (try dsimp only); (try k_fold)))
  k_with "call ref" => (k_here; k_dflt (refine' Con.use ?z70kC ?z70k1 ?z70k2 ?z70k3 ?z70k4 ?z70k5 ?z70kK ?z70kd ?z70ku ?_; (case z70k2 => k_asm); (case z70k4 => k_asm); (case z70kC => first | (refine' con_words _ _ _ _ _ _ ?z70a1 ?z70a2 ?z70a3; (case z70a1 => k_mem); (case z70a2 => assumption); (case z70a3 => omega))); (case z70k1 => k_asm); (case z70k3 => k_asm); (case z70k5 => k_asm); (case z70kK => first | exact rfl | assumption); (case z70kd => ktr_room); (case z70ku => ktr_units); intro _ _ _ _ _ _ _ _ _; (try dsimp only); (try k_fold)))
  k_with "call ref" => (k_here; k_dflt (refine' Con.use ?z71kC ?z71k1 ?z71k2 ?z71k3 ?z71k4 ?z71k5 ?z71kK ?z71kd ?z71ku ?_; (case z71k2 => k_asm); (case z71k4 => k_asm); (case z71kC => first | (refine' con_codes _ _ _ _ _ _ ?z71a1 ?z71a2 ?z71a3 ?z71a4; (case z71a1 => k_mem); (case z71a2 => assumption); (case z71a3 => omega); (case z71a4 => assumption))); (case z71k1 => k_asm); (case z71k3 => k_asm); (case z71k5 => k_asm); (case z71kK => first | exact rfl | assumption); (case z71kd => ktr_room); (case z71ku => ktr_units); intro _ _ _ _ _ _ _ _ _; (try dsimp only); (try k_fold)))
  k_with "compareOp NotEq ref ref" => (k_here; (with_reducible show wpAny _ _ (compareOp CmpOp.NotEq (Value.ref _) (Value.ref _)) _ _ _); k_dflt (refine' ne_given ?z72gN ?z72g1 ?z72g2 ?z72g3 ?z72g4 ?z72g5 ?z72g6 ?z72gu ?_; (case z72gN => k_asm); (case z72g1 => k_mem); (case z72g4 => k_mem); (case z72g2 => k_mem); (case z72g3 => assumption); (case z72g5 => k_mem); (case z72g6 => assumption); (case z72gu => ke_room); k_whole))
  k_with "call ref" => (k_here; k_dflt (refine' ConX.use ?z73kC ?z73k1 ?z73k2 ?z73k3 ?z73k4 ?z73k5 ?z73kK ?z73kd ?z73ku ?_ ?_; (case z73k2 => k_asm); (case z73k4 => k_asm); (case z73kC => first | (refine' con_text _ _ _ _ _ _ ?z73a1 ?z73a2 ?z73a3; (case z73a1 => k_mem); (case z73a2 => assumption); (case z73a3 => omega))); (case z73k1 => k_asm); (case z73k3 => k_asm); (case z73k5 => k_asm); (case z73kK => first | exact rfl | assumption); (case z73kd => ktr_room); (case z73ku => ktr_units); intro _ _ _ _ _ _ _ _ _ _; (try dsimp only); (try k_fold); rotate_left; (refine ⟨?_, ?_⟩); (try dsimp only); rotate_right))
  k_with "call ref" => (k_here; k_dflt (refine' ConX.use ?z74kC ?z74k1 ?z74k2 ?z74k3 ?z74k4 ?z74k5 ?z74kK ?z74kd ?z74ku ?_ ?_; (case z74k2 => k_asm); (case z74k4 => k_asm); (case z74kC => first | (refine' con_units _ _ _ _ _ _ ?z74a1 ?z74a2 ?z74a3; (case z74a1 => k_mem); (case z74a2 => assumption); (case z74a3 => (simp only [List.length_append, List.length_take, List.length_drop, List.length_cons, List.length_nil]; omega)))); (case z74k1 => k_asm); (case z74k3 => k_asm); (case z74k5 => k_asm); (case z74kK => first | exact rfl | assumption); (case z74kd => ktr_room); (case z74ku => ktr_units); intro _ _ _ _ _ _ h9 tk9 _ _; (try dsimp only); (try k_fold); rotate_left; intro _ _ _ _ _ _ _ _ _ _ _ _; (try dsimp only); rotate_right))
  k_with "eval Name" => (k_here; (with_reducible show wpAny _ _ (eval (Expr.Name _ _) (envX _ _ _ _ _ _)) _ _ _); k_dflt (refine' nameX_F ?z75N ?z75c ?z75m ?z75d ?_ ?z75a ?z75b; (case z75a => rfl); (case z75b => rfl); (case z75N => k_asm); (case z75c => rfl); (case z75m => k_mem); (case z75d => k_asm); k_whole))
  k_with "call type:list" => (k_here; (with_reducible show wpAny _ _ (call (Value.type _) [Value.ref _]) _ _ _); k_dflt (refine' list_copyI ?z76F ?z76N ?z76m ?z76i ?z76z ?_; (case z76F => k_asm); (case z76N => k_asm); (case z76m => k_mem); (case z76i => assumption); (case z76z => omega)); intro _ _ _ _ _ _)
  unfold ConT
  intro loose mean mg mb dp ux gd cn cs a ccd cl outer A₀ base h₀ L m s Q E B F X N T XB TB hS hk hdp hun hret
  refine wpAny_call ?_
  k_dflt (refine' code_defCT ?k1 ?k2 ?k3 ?k4 ?k5 ?kXB ?kTB ?kA ?kF ?kK ?k6 ?k7 ?k8 ?k9 ?kB ?kD ?_ ?c2 ?c3 ?c4; (case kXB => assumption); (case kTB => assumption); (case kA => exact rfl); (case kF => exact rfl); (case kK => assumption); (case k1 => k_asm); (case k2 => k_asm); (case k3 => k_asm); (case k4 => k_asm); (case k5 => k_asm); (case k6 => k_is); (case k7 => k_is); (case k8 => ktr_room); (case k9 => first | exact BindsTo.of_eq rfl | exact binds_K (by k_in) rfl (by k_is) rfl rfl rfl); (case kB => exact rfl); (case kD => decide +kernel); (case c2 => exact rfl); (case c3 => exact rfl); (case c4 => exact rfl); k_whole; intro g' L' h' tk' cells' FG' F' N' Y' B' X' T' l1;  (try simp only [List.cons_append, List.nil_append] at N'); skip)
  refine enter_nmX ?_
  intro q0 hq0
  refine nameAEX ?_
  intro Av Ev Xv
  obtain ⟨oc1, oc2, oc3, oc4, hE, dc1, dc2, dc3, dc4⟩ := CellsAre.four Y'
  subst hE
  clear Y'
  replace dc1 : oc1.data = .cell (none) := dc1.trans (by rfl)
  replace dc2 : oc2.data = .cell (none) := dc2.trans (by rfl)
  replace dc3 : oc3.data = .cell (some (.ref V)) := dc3.trans (by rfl)
  replace dc4 : oc4.data = .cell (some (.ref U)) := dc4.trans (by rfl)
  simp only [List.cons_append, List.nil_append] at N'
  replace F' : Fr g' L' h' (fun y => if y = Str.ofString "tape" then some (.ref TP) else none) := fr_eq F' (by rfl)
  (try dsimp only)
  (try k_fold)
  have hne : TL ≠ TP := hT _ hTL
  have CH := hS
  have hTPl : @LT.lt Nat instLTNat TP L' := l1 _ (.tail _ (.head _))
  have hPT' : @Ne Nat TP 258 := hPT
  have h2l : @LT.lt Nat instLTNat 258 L' := l1 _ (.head _)
  have hPl : ∀ p ∈ news, p.1 < L' := fun p hp => l1 p (.tail _ (.tail _ hp))
  k_with "exec If Compare cons nil" => (k_dflt (refine WStop.go ?_))
  k_steps
  unfold WStop
  refine wpAny_mono (Q := fun f s' => WrR g' L' TP TL V news s f s') ?first ?rest fun _ _ x => x
  case first =>
    k_with_none
    k_with "LeaveT" => (k_dflt (refine' leaveT_ ?z66k1 ?z66k2 ?z66k3 ?_; (case z66k1 => k_asm); (case z66k2 => k_asm); (case z66k3 => first | assumption | exact KtsTurn.refl | exact KtsTurn.trans (by assumption) (by assumption)); intro _ _ _ _ _ _ _; (try dsimp only); (try k_fold)))
    k_with "callWith ref" => (k_here; k_dflt (refine' callWith_K ?z67k1 ?z67k2 ?_; (case z67k1 => k_asm); (case z67k2 => k_is); k_whole))
    k_with "exec Assign" => ((with_reducible show wpAny _ _ (exec (Stmt.Assign [Expr.Tuple _ _ _] _ _) _) _ _ _); refine Assign_Tuple ?_)
    k_with "call ref" => (k_here; k_dflt (refine' Con.use ?z69kC ?z69k1 ?z69k2 ?z69k3 ?z69k4 ?z69k5 ?z69kK ?z69kd ?z69ku ?_; (case z69k2 => k_asm); (case z69k4 => k_asm); (case z69kC => first | (refine' con_draw _ _ _ _ _ _ _ _ _ _ _ _ _ ?z69a1 ?z69a2 ?z69a3 ?z69a4 ?z69a5 ?z69a6 ?z69a7; (case z69a1 => k_updF); (case z69a2 => k_mem); (case z69a3 => assumption); (case z69a4 => assumption); (case z69a5 => assumption); (case z69a6 => omega); (case z69a7 => omega))); (case z69k1 => k_asm); (case z69k3 => k_asm); (case z69k5 => k_asm); (case z69kK => first | exact rfl | assumption); (case z69kd => ktr_room); (case z69ku => ktr_units); intro _ _ _ _ _ _ _ _ _ _; (try dsimp only); (try k_fold)))
    k_with "call ref" => (k_here; k_dflt (refine' Con.use ?z70kC ?z70k1 ?z70k2 ?z70k3 ?z70k4 ?z70k5 ?z70kK ?z70kd ?z70ku ?_; (case z70k2 => k_asm); (case z70k4 => k_asm); (case z70kC => first | (refine' con_words _ _ _ _ _ _ ?z70a1 ?z70a2 ?z70a3; (case z70a1 => k_mem); (case z70a2 => assumption); (case z70a3 => omega))); (case z70k1 => k_asm); (case z70k3 => k_asm); (case z70k5 => k_asm); (case z70kK => first | exact rfl | assumption); (case z70kd => ktr_room); (case z70ku => ktr_units); intro _ _ _ _ _ _ _ _ _; (try dsimp only); (try k_fold)))
    k_with "call ref" => (k_here; k_dflt (refine' Con.use ?z71kC ?z71k1 ?z71k2 ?z71k3 ?z71k4 ?z71k5 ?z71kK ?z71kd ?z71ku ?_; (case z71k2 => k_asm); (case z71k4 => k_asm); (case z71kC => first | (refine' con_codes _ _ _ _ _ _ ?z71a1 ?z71a2 ?z71a3 ?z71a4; (case z71a1 => k_mem); (case z71a2 => assumption); (case z71a3 => omega); (case z71a4 => assumption))); (case z71k1 => k_asm); (case z71k3 => k_asm); (case z71k5 => k_asm); (case z71kK => first | exact rfl | assumption); (case z71kd => ktr_room); (case z71ku => ktr_units); intro _ _ _ _ _ _ _ _ _; (try dsimp only); (try k_fold)))
    k_with "compareOp NotEq ref ref" => (k_here; (with_reducible show wpAny _ _ (compareOp CmpOp.NotEq (Value.ref _) (Value.ref _)) _ _ _); k_dflt (refine' ne_given ?z72gN ?z72g1 ?z72g2 ?z72g3 ?z72g4 ?z72g5 ?z72g6 ?z72gu ?_; (case z72gN => k_asm); (case z72g1 => k_mem); (case z72g4 => k_mem); (case z72g2 => k_mem); (case z72g3 => assumption); (case z72g5 => k_mem); (case z72g6 => assumption); (case z72gu => ke_room); k_whole))
    k_with "call ref" => (k_here; k_dflt (refine' ConX.use ?z73kC ?z73k1 ?z73k2 ?z73k3 ?z73k4 ?z73k5 ?z73kK ?z73kd ?z73ku ?_ ?_; (case z73k2 => k_asm); (case z73k4 => k_asm); (case z73kC => first | (refine' con_text _ _ _ _ _ _ ?z73a1 ?z73a2 ?z73a3; (case z73a1 => k_mem); (case z73a2 => assumption); (case z73a3 => omega))); (case z73k1 => k_asm); (case z73k3 => k_asm); (case z73k5 => k_asm); (case z73kK => first | exact rfl | assumption); (case z73kd => ktr_room); (case z73ku => ktr_units); intro _ _ _ _ _ _ _ _ _ _; (try dsimp only); (try k_fold); rotate_left; (refine ⟨?_, ?_⟩); (try dsimp only); rotate_right))
    k_with "call ref" => (k_here; k_dflt (refine' ConX.use ?z74kC ?z74k1 ?z74k2 ?z74k3 ?z74k4 ?z74k5 ?z74kK ?z74kd ?z74ku ?_ ?_; (case z74k2 => k_asm); (case z74k4 => k_asm); (case z74kC => first | (refine' con_units _ _ _ _ _ _ ?z74a1 ?z74a2 ?z74a3; (case z74a1 => k_mem); (case z74a2 => assumption); (case z74a3 => (simp only [List.length_append, List.length_take, List.length_drop, List.length_cons, List.length_nil]; omega)))); (case z74k1 => k_asm); (case z74k3 => k_asm); (case z74k5 => k_asm); (case z74kK => first | exact rfl | assumption); (case z74kd => ktr_room); (case z74ku => ktr_units); intro _ _ _ _ _ _ h9 tk9 _ _; (try dsimp only); (try k_fold); rotate_left; intro _ _ _ _ _ _ _ _ _ _ _ _; (try dsimp only); rotate_right))
    k_with "eval Name" => (k_here; (with_reducible show wpAny _ _ (eval (Expr.Name _ _) (envX _ _ _ _ _ _)) _ _ _); k_dflt (refine' nameX_F ?z75N ?z75c ?z75m ?z75d ?_ ?z75a ?z75b; (case z75a => rfl); (case z75b => rfl); (case z75N => k_asm); (case z75c => rfl); (case z75m => k_mem); (case z75d => k_asm); k_whole))
    k_with "call type:list" => (k_here; (with_reducible show wpAny _ _ (call (Value.type _) [Value.ref _]) _ _ _); k_dflt (refine' list_copyI ?z76F ?z76N ?z76m ?z76i ?z76z ?_; (case z76F => k_asm); (case z76N => k_asm); (case z76m => k_mem); (case z76i => assumption); (case z76z => omega)); intro _ _ _ _ _ _)
    k_steps
    · rename IntsAre _ (_ ++ _ ++ _) => hI5
      rename _ < _ ∧ _ => hLt
      rename Obj.data _ = Data.cell (some (Value.ref _)) => dU
      rename Obj.data _ = Data.cell (some (Value.int _ _)) => dA
      refine ⟨rfl, _, _, (_, listOf _ 0) :: news, _, _, _, _, _, _, _, _, _, _, _, _, _, _, rfl, (by k_asm), (by walk_at "kp"), news_sub (by k_asm) (sub_mid (x := [_, _, _, _, _, _]) (b := [_, _, _, _, _, _])), dc1, dA, dc3, dU, .head _, hI5, ?_, (by omega), (fun p hp => .tail _ hp), all_cons (by k_ne) hT, all_cons (by k_ne) hP, all_cons (by k_ne) (all_lt hPl (by omega)), all_cons (by k_ne) (all_lt hPl (by omega)), all_cons (by k_ne) (all_lt hPl (by omega)), all_cons (by k_ne) (all_lt hPl (by omega))⟩
      · exact len_ins ‹_›
    · rename Obj.data _ = Data.cell (some (Value.int _ _)) => dA
      refine ⟨rfl, _, _, news, _, _, _, _, _, _, _, _, _, _, _, _, _, _, rfl, (by k_asm), (by walk_at "kp"), news_sub (by k_asm) (fun p hp => .tail _ hp), dc1, dA, dc3, dc4, hU, hu, (by omega), (by omega), (fun p hp => hp), hT, hP, all_lt hPl (by omega), all_lt hPl (by omega), all_lt hPl (by omega), all_lt hPl (by omega)⟩
  case rest =>
    rintro f s' ⟨rfl, h9, tk9, nw, o1, o2, o3, o4, Un, vn, un, nn, p9, t9, n9, m9, at9, ta9, rfl, F9, hkp, N9, d1, d2, d3, d4, hUn, hun, hul9, hp9, hsub, hn1, hn2, hn3, hn4, hn5, hn6⟩
    obtain ⟨c9, rfl⟩ := hkp.shape1
    clear hkp
    k_with "exec For Tuple Call cons nil" => (k_dflt ((rename Fr _ _ _ _ => lF9); (with_unfolding_all refine' For_turns lF9 ?_; k_whole)))
    k_steps
    rename StrsAre _ _ => hs9
    rename ∀ p ∈ (_, _) :: (_, o1) :: _, _ => hl9
    rename _ < _ ∧ _ => hLt
    rename News _ _ _ ((_, listOf _ _) :: (_, _) :: (_, o1) :: _) => N7
    have N8 := news_sub N7 (sub_swap (x := [_, _]) (b := [_, _, _, _, _, _]))
    simp only [List.cons_append, List.nil_append] at N8
    k_dflt (refine for_enum (by rfl) (by k_asm) N8 (by k_mem) (JWa L' o1 o2 o3 o4 TP TL p9 t9 n9 un Un vn nn news c9) ?h0 ?turn ?fin)
    case h0 =>
      exact ⟨_, _, rfl, .inl ⟨(fun _ h => nomatch h), _, .tail _ (.head _)⟩, .tail _ (.tail _ hUn), (fun p hp => .tail _ (.tail _ (hsub p hp))), all_cons (hl9 (TP, _) (by k_mem)).symm (all_cons (by k_ne) hn1), all_cons (hl9 (258, _) (by k_mem)).symm (all_cons (by k_ne) hn2), all_cons (hl9 (L' + 1, _) (by k_mem)).symm (all_cons (by k_ne) hn3), all_cons (hl9 (L' + 1 + 1, _) (by k_mem)).symm (all_cons (by k_ne) hn4), all_cons (hl9 (L' + 1 + 1 + 1, _) (by k_mem)).symm (all_cons (by k_ne) hn5), all_cons (hl9 (L' + 1 + 1 + 1 + 1, _) (by k_mem)).symm (all_cons (by k_ne) hn6), .refl⟩
    case turn =>
      intro i v t TT m₁ n₁ own h8 tk8 hv8 hT8 hJ hoff hw hown F8 N8
      obtain ⟨nw1, Du, rfl, hdue, hUn1, hsub1, hm1, hm2, hm3, hm4, hm5, hm6, hkp⟩ := hJ
      obtain ⟨c1, c2, rfl⟩ := hkp.shape2
      obtain ⟨hlt, tv, rfl⟩ := strs_item hs9 hv8
      simp only [List.length_map, List.length_range] at hlt
      rw [getD_map_range _ _ _ _ hlt] at hT8
      obtain ⟨rest, hrest⟩ : ∃ r, r = nw1 ++ own := ⟨_, rfl⟩
      simp only [List.cons_append] at N8
      rw [← hrest] at N8
      have hUn8 : (Un, listOf vn.toArray nn) ∈ rest := hrest ▸ List.mem_append_left _ hUn1
      rcases hdue with ⟨hall, td, hDu⟩ | ⟨j, td, ud, hj, hall, hbad, hDu⟩ | ⟨j, td, ud, vd, Tp, hj, hall, hin, hf, hDu, hTp⟩
      · have hDu8 := hrest ▸ List.mem_append_left own hDu
        k_steps
        all_goals (try simp only [Int.toNat_natCast, fault_bne, decide_eq_true_eq, decide_eq_false_iff_not, Classical.not_not] at *)
        all_goals subst hrest
        · rename ¬ faultS un i = "" => hf9
          rename _ < _ ∧ _ => hLt1
          have hq1 := tb_ltOf hLt1.2.2.2.2.2.2.2.2.2
          revert hLt1
          rename _ < _ ∧ _ => hLt2
          intro hLt1
          have hq2 := tb_ltOf hLt2.2.2.2.2.2.2.2.2
          refine TurnEnd.intro (n' := (L' + 1 + 1 + 1 + 1, o1) :: (L' + 1 + 1 + 1, o2) :: (L' + 1 + 1, o3) :: (L' + 1, o4) :: (258, tabObj #[]) :: (TP, listOf [Value.ref TL, .int p9 t9].toArray n9) :: (_, _) :: (_, _) :: nw1) (by k_asm) (news_sub (by k_asm) (sub_turn (x := [_, _]) (y := [_, _]) (b := [_, _, _, _, _, _]))) (off_mid (b := [_, _, _, _, _, _]) (off_mid (b := [_, _, _, _, _, _]) hoff (off_new hw (fun p hp => List.mem_append_right _ hp) hq2)) (off_new hw (fun p hp => List.mem_append_right _ hp) hq1)) ⟨_, _, rfl, .inr (.inr ⟨i, _, _, _, _, Nat.lt_succ_self i, hall, (by rw [inR, Bool.and_eq_true, decide_eq_true_eq, decide_eq_true_eq]; exact ⟨‹_›, ‹_›⟩), hf9, .head _, .tail _ (.head _)⟩), .tail _ (.tail _ hUn1), (fun p hp => .tail _ (.tail _ (hsub1 p hp))), all_cons (by k_ne) (all_cons (by k_ne) hm1), all_cons (by k_ne) (all_cons (by k_ne) hm2), all_cons (by k_ne) (all_cons (by k_ne) hm3), all_cons (by k_ne) (all_cons (by k_ne) hm4), all_cons (by k_ne) (all_cons (by k_ne) hm5), all_cons (by k_ne) (all_cons (by k_ne) hm6), by first | walk_at "kp" | (intro y hy; simp only [List.mem_cons, not_or, List.not_mem_nil, not_false_eq_true, and_true] at hy; by_cases hq0 : y = Str.ofString "due"; (· subst hq0; rfl); simp only [setN, setO, hy, hq0, if_false])⟩
        · refine TurnEnd.intro (n' := (L' + 1 + 1 + 1 + 1, o1) :: (L' + 1 + 1 + 1, o2) :: (L' + 1 + 1, o3) :: (L' + 1, o4) :: (258, tabObj #[]) :: (TP, listOf [Value.ref TL, .int p9 t9].toArray n9) :: nw1) (by k_asm) (news_sub (by k_asm) (sub_turn (x := []) (y := [_, _]) (b := [_, _, _, _, _, _]))) hoff ⟨nw1, Du, rfl, .inl ⟨all_snoc hall (ok_of ‹_› ‹_› ‹_›), td, hDu⟩, hUn1, hsub1, hm1, hm2, hm3, hm4, hm5, hm6, by first | walk_at "kp" | (intro y hy; simp only [List.mem_cons, not_or, List.not_mem_nil, not_false_eq_true, and_true] at hy; by_cases hq0 : y = Str.ofString "due"; (· subst hq0; rfl); simp only [setN, setO, hy, hq0, if_false])⟩
        · rename _ < _ ∧ _ => hLt1
          have hq1 := tb_ltOf hLt1.2.2.2.2.2.2.2
          refine TurnEnd.intro (n' := (L' + 1 + 1 + 1 + 1, o1) :: (L' + 1 + 1 + 1, o2) :: (L' + 1 + 1, o3) :: (L' + 1, o4) :: (258, tabObj #[]) :: (TP, listOf [Value.ref TL, .int p9 t9].toArray n9) :: (_, _) :: nw1) (by k_asm) (news_sub (by k_asm) (sub_turn (x := [_]) (y := [_]) (b := [_, _, _, _, _, _]))) (off_mid (b := [_, _, _, _, _, _]) hoff (off_new hw (fun p hp => List.mem_append_right _ hp) hq1)) ⟨_, _, rfl, .inr (.inl ⟨i, _, _, Nat.lt_succ_self i, hall, (by rw [inR, Bool.and_eq_false_iff, decide_eq_false_iff_not, decide_eq_false_iff_not]; first | exact .inr ‹_› | exact .inl ‹_›), .head _⟩), .tail _ hUn1, (fun p hp => .tail _ (hsub1 p hp)), all_cons (by k_ne) hm1, all_cons (by k_ne) hm2, all_cons (by k_ne) hm3, all_cons (by k_ne) hm4, all_cons (by k_ne) hm5, all_cons (by k_ne) hm6, by first | walk_at "kp" | (intro y hy; simp only [List.mem_cons, not_or, List.not_mem_nil, not_false_eq_true, and_true] at hy; by_cases hq0 : y = Str.ofString "due"; (· subst hq0; rfl); simp only [setN, setO, hy, hq0, if_false])⟩
        · rename _ < _ ∧ _ => hLt1
          have hq1 := tb_ltOf hLt1.2.2.2.2.2.2.2
          refine TurnEnd.intro (n' := (L' + 1 + 1 + 1 + 1, o1) :: (L' + 1 + 1 + 1, o2) :: (L' + 1 + 1, o3) :: (L' + 1, o4) :: (258, tabObj #[]) :: (TP, listOf [Value.ref TL, .int p9 t9].toArray n9) :: (_, _) :: nw1) (by k_asm) (news_sub (by k_asm) (sub_turn (x := [_]) (y := [_]) (b := [_, _, _, _, _, _]))) (off_mid (b := [_, _, _, _, _, _]) hoff (off_new hw (fun p hp => List.mem_append_right _ hp) hq1)) ⟨_, _, rfl, .inr (.inl ⟨i, _, _, Nat.lt_succ_self i, hall, (by rw [inR, Bool.and_eq_false_iff, decide_eq_false_iff_not, decide_eq_false_iff_not]; first | exact .inr ‹_› | exact .inl ‹_›), .head _⟩), .tail _ hUn1, (fun p hp => .tail _ (hsub1 p hp)), all_cons (by k_ne) hm1, all_cons (by k_ne) hm2, all_cons (by k_ne) hm3, all_cons (by k_ne) hm4, all_cons (by k_ne) hm5, all_cons (by k_ne) hm6, by first | walk_at "kp" | (intro y hy; simp only [List.mem_cons, not_or, List.not_mem_nil, not_false_eq_true, and_true] at hy; by_cases hq0 : y = Str.ofString "due"; (· subst hq0; rfl); simp only [setN, setO, hy, hq0, if_false])⟩
      · have hDu8 := hrest ▸ List.mem_append_left own hDu
        k_steps
        all_goals subst hrest
        all_goals trace_state
        all_goals refine TurnEnd.intro (n' := (L' + 1 + 1 + 1 + 1, o1) :: (L' + 1 + 1 + 1, o2) :: (L' + 1 + 1, o3) :: (L' + 1, o4) :: (258, tabObj #[]) :: (TP, listOf [Value.ref TL, .int p9 t9].toArray n9) :: nw1) (by k_asm) (news_sub (by k_asm) (sub_turn (x := []) (y := [_, _]) (b := [_, _, _, _, _, _]))) hoff ⟨nw1, Du, rfl, .inr (.inl ⟨j, td, ud, Nat.lt_succ_of_lt hj, hall, hbad, hDu⟩), hUn1, hsub1, hm1, hm2, hm3, hm4, hm5, hm6, by first | walk_at "kp" | (intro y hy; simp only [List.mem_cons, not_or, List.not_mem_nil, not_false_eq_true, and_true] at hy; by_cases hq0 : y = Str.ofString "due"; (· subst hq0; rfl); simp only [setN, setO, hy, hq0, if_false])⟩
      · have hDu8 := hrest ▸ List.mem_append_left own hDu
        have hTp8 := hrest ▸ List.mem_append_left own hTp
        rcases fault_cases un j with hfc | hfc | hfc
        · exact absurd hfc hf
        all_goals rw [hfc] at hTp8
        all_goals k_steps
        all_goals subst hrest
        all_goals refine TurnEnd.intro (n' := (L' + 1 + 1 + 1 + 1, o1) :: (L' + 1 + 1 + 1, o2) :: (L' + 1 + 1, o3) :: (L' + 1, o4) :: (258, tabObj #[]) :: (TP, listOf [Value.ref TL, .int p9 t9].toArray n9) :: nw1) (by k_asm) (news_sub (by k_asm) (sub_turn (x := []) (y := [_, _]) (b := [_, _, _, _, _, _]))) hoff ⟨nw1, Du, rfl, .inr (.inr ⟨j, td, ud, vd, Tp, Nat.lt_succ_of_lt hj, hall, hin, hf, hDu, hTp⟩), hUn1, hsub1, hm1, hm2, hm3, hm4, hm5, hm6, by first | walk_at "kp" | (intro y hy; simp only [List.mem_cons, not_or, List.not_mem_nil, not_false_eq_true, and_true] at hy; by_cases hq0 : y = Str.ofString "due"; (· subst hq0; rfl); simp only [setN, setO, hy, hq0, if_false])⟩
    case fin =>
      rintro m₁ n₁ h8 tk8 ⟨nw1, Du, rfl, hdue, hUn1, hsub1, hm1, hm2, hm3, hm4, hm5, hm6, hkp⟩ F8 N8
      obtain ⟨c1, c2, rfl⟩ := hkp.shape2
      have hll := StrsAre.length hs9
      simp only [List.length_map, List.length_range] at hll
      rw [hll] at hdue
      k_with "exec If Compare cons nil" => (k_dflt (refine WStop.go ?_))
      k_steps
      unfold WStop
      refine wpAny_mono (Q := fun f s' => WrD g' L' TP TL p9 t9 n9 o1 o2 o3 o4 Un vn un nn news s f s') ?first ?rest fun _ _ x => x
      case first =>
        k_with_none
        k_with "LeaveT" => (k_dflt (refine' leaveT_ ?z66k1 ?z66k2 ?z66k3 ?_; (case z66k1 => k_asm); (case z66k2 => k_asm); (case z66k3 => first | assumption | exact KtsTurn.refl | exact KtsTurn.trans (by assumption) (by assumption)); intro _ _ _ _ _ _ _; (try dsimp only); (try k_fold)))
        k_with "callWith ref" => (k_here; k_dflt (refine' callWith_K ?z67k1 ?z67k2 ?_; (case z67k1 => k_asm); (case z67k2 => k_is); k_whole))
        k_with "exec Assign" => ((with_reducible show wpAny _ _ (exec (Stmt.Assign [Expr.Tuple _ _ _] _ _) _) _ _ _); refine Assign_Tuple ?_)
        k_with "call ref" => (k_here; k_dflt (refine' Con.use ?z69kC ?z69k1 ?z69k2 ?z69k3 ?z69k4 ?z69k5 ?z69kK ?z69kd ?z69ku ?_; (case z69k2 => k_asm); (case z69k4 => k_asm); (case z69kC => first | (refine' con_draw _ _ _ _ _ _ _ _ _ _ _ _ _ ?z69a1 ?z69a2 ?z69a3 ?z69a4 ?z69a5 ?z69a6 ?z69a7; (case z69a1 => k_updF); (case z69a2 => k_mem); (case z69a3 => assumption); (case z69a4 => assumption); (case z69a5 => assumption); (case z69a6 => omega); (case z69a7 => omega))); (case z69k1 => k_asm); (case z69k3 => k_asm); (case z69k5 => k_asm); (case z69kK => first | exact rfl | assumption); (case z69kd => ktr_room); (case z69ku => ktr_units); intro _ _ _ _ _ _ _ _ _ _; (try dsimp only); (try k_fold)))
        k_with "call ref" => (k_here; k_dflt (refine' Con.use ?z70kC ?z70k1 ?z70k2 ?z70k3 ?z70k4 ?z70k5 ?z70kK ?z70kd ?z70ku ?_; (case z70k2 => k_asm); (case z70k4 => k_asm); (case z70kC => first | (refine' con_words _ _ _ _ _ _ ?z70a1 ?z70a2 ?z70a3; (case z70a1 => k_mem); (case z70a2 => assumption); (case z70a3 => omega))); (case z70k1 => k_asm); (case z70k3 => k_asm); (case z70k5 => k_asm); (case z70kK => first | exact rfl | assumption); (case z70kd => ktr_room); (case z70ku => ktr_units); intro _ _ _ _ _ _ _ _ _; (try dsimp only); (try k_fold)))
        k_with "call ref" => (k_here; k_dflt (refine' Con.use ?z71kC ?z71k1 ?z71k2 ?z71k3 ?z71k4 ?z71k5 ?z71kK ?z71kd ?z71ku ?_; (case z71k2 => k_asm); (case z71k4 => k_asm); (case z71kC => first | (refine' con_codes _ _ _ _ _ _ ?z71a1 ?z71a2 ?z71a3 ?z71a4; (case z71a1 => k_mem); (case z71a2 => assumption); (case z71a3 => omega); (case z71a4 => assumption))); (case z71k1 => k_asm); (case z71k3 => k_asm); (case z71k5 => k_asm); (case z71kK => first | exact rfl | assumption); (case z71kd => ktr_room); (case z71ku => ktr_units); intro _ _ _ _ _ _ _ _ _; (try dsimp only); (try k_fold)))
        k_with "compareOp NotEq ref ref" => (k_here; (with_reducible show wpAny _ _ (compareOp CmpOp.NotEq (Value.ref _) (Value.ref _)) _ _ _); k_dflt (refine' ne_given ?z72gN ?z72g1 ?z72g2 ?z72g3 ?z72g4 ?z72g5 ?z72g6 ?z72gu ?_; (case z72gN => k_asm); (case z72g1 => k_mem); (case z72g4 => k_mem); (case z72g2 => k_mem); (case z72g3 => assumption); (case z72g5 => k_mem); (case z72g6 => assumption); (case z72gu => ke_room); k_whole))
        k_with "call ref" => (k_here; k_dflt (refine' ConX.use ?z73kC ?z73k1 ?z73k2 ?z73k3 ?z73k4 ?z73k5 ?z73kK ?z73kd ?z73ku ?_ ?_; (case z73k2 => k_asm); (case z73k4 => k_asm); (case z73kC => first | (refine' con_text _ _ _ _ _ _ ?z73a1 ?z73a2 ?z73a3; (case z73a1 => k_mem); (case z73a2 => assumption); (case z73a3 => omega))); (case z73k1 => k_asm); (case z73k3 => k_asm); (case z73k5 => k_asm); (case z73kK => first | exact rfl | assumption); (case z73kd => ktr_room); (case z73ku => ktr_units); intro _ _ _ _ _ _ _ _ _ _; (try dsimp only); (try k_fold); rotate_left; (refine ⟨?_, ?_⟩); (try dsimp only); rotate_right))
        k_with "call ref" => (k_here; k_dflt (refine' ConX.use ?z74kC ?z74k1 ?z74k2 ?z74k3 ?z74k4 ?z74k5 ?z74kK ?z74kd ?z74ku ?_ ?_; (case z74k2 => k_asm); (case z74k4 => k_asm); (case z74kC => first | (refine' con_units _ _ _ _ _ _ ?z74a1 ?z74a2 ?z74a3; (case z74a1 => k_mem); (case z74a2 => assumption); (case z74a3 => (simp only [List.length_append, List.length_take, List.length_drop, List.length_cons, List.length_nil]; omega)))); (case z74k1 => k_asm); (case z74k3 => k_asm); (case z74k5 => k_asm); (case z74kK => first | exact rfl | assumption); (case z74kd => ktr_room); (case z74ku => ktr_units); intro _ _ _ _ _ _ h9 tk9 _ _; (try dsimp only); (try k_fold); rotate_left; intro _ _ _ _ _ _ _ _ _ _ _ _; (try dsimp only); rotate_right))
        k_with "eval Name" => (k_here; (with_reducible show wpAny _ _ (eval (Expr.Name _ _) (envX _ _ _ _ _ _)) _ _ _); k_dflt (refine' nameX_F ?z75N ?z75c ?z75m ?z75d ?_ ?z75a ?z75b; (case z75a => rfl); (case z75b => rfl); (case z75N => k_asm); (case z75c => rfl); (case z75m => k_mem); (case z75d => k_asm); k_whole))
        k_with "call type:list" => (k_here; (with_reducible show wpAny _ _ (call (Value.type _) [Value.ref _]) _ _ _); k_dflt (refine' list_copyI ?z76F ?z76N ?z76m ?z76i ?z76z ?_; (case z76F => k_asm); (case z76N => k_asm); (case z76m => k_mem); (case z76i => assumption); (case z76z => omega)); intro _ _ _ _ _ _)
        rcases hdue with ⟨hall, td, hDu⟩ | ⟨j, td, ud, hj, hall, hbad, hDu⟩ | ⟨j, td, ud, vd, Tp, hj, hall, hin, hf, hDu, hTp⟩
        · have hok9 : ∀ i, i < un.length → faultS un i = "" := fun i hi => ok_fault (hall i hi)
          k_steps
          rename IntsAre _ (codesW un) => hcw9
          rename ∀ p ∈ (_, _) :: (_, o1) :: _, _ => hl9c
          refine ⟨rfl, _, _, (_, _) :: (_, _) :: nw1, _, _, rfl, (by k_asm), (by first | walk_at "kp" | (intro y hy; simp only [List.mem_cons, not_or, List.not_mem_nil, not_false_eq_true, and_true] at hy; by_cases hq0 : y = Str.ofString "due"; (· subst hq0; rfl); by_cases hq1 : y = Str.ofString "tape"; (· subst hq1; rfl); simp only [setN, setO, hy, hq0, hq1, if_false])), news_sub (by k_asm) (sub_three (x := [_, _]) (y := [_]) (b := [_, _, _, _, _, _])), .inl ⟨hall, _, _, _, _, .head _, .tail _ (.head _), hcw9⟩, .tail _ (.tail _ hUn1), (fun p hp => .tail _ (.tail _ (hsub1 p hp))), all_cons (by k_ne) (all_cons (Nat.ne_of_gt (hl9c (TP, _) (by k_mem))) hm1), all_cons (by k_ne) (all_cons (Nat.ne_of_gt (hl9c (258, _) (by k_mem))) hm2), all_cons (by k_ne) (all_cons (Nat.ne_of_gt (hl9c (L' + 1, _) (by k_mem))) hm3), all_cons (by k_ne) (all_cons (Nat.ne_of_gt (hl9c (L' + 1 + 1, _) (by k_mem))) hm4), all_cons (by k_ne) (all_cons (Nat.ne_of_gt (hl9c (L' + 1 + 1 + 1, _) (by k_mem))) hm5), all_cons (by k_ne) (all_cons (Nat.ne_of_gt (hl9c (L' + 1 + 1 + 1 + 1, _) (by k_mem))) hm6)⟩
        · k_steps
          refine ⟨rfl, _, _, nw1, Du, _, rfl, (by k_asm), (by first | walk_at "kp" | (intro y hy; simp only [List.mem_cons, not_or, List.not_mem_nil, not_false_eq_true, and_true] at hy; by_cases hq0 : y = Str.ofString "due"; (· subst hq0; rfl); by_cases hq1 : y = Str.ofString "tape"; (· subst hq1; rfl); simp only [setN, setO, hy, hq0, hq1, if_false])), news_sub (by k_asm) (fun p hp => .tail _ hp), .inr (.inl ⟨j, td, ud, hj, hall, hbad, hDu⟩), hUn1, hsub1, hm1, hm2, hm3, hm4, hm5, hm6⟩
        · have hTp9 := hTp
          rcases fault_cases un j with hfc | hfc | hfc
          · exact absurd hfc hf
          all_goals rw [hfc] at hTp9
          all_goals k_steps
          all_goals refine ⟨rfl, _, _, nw1, Du, _, rfl, (by k_asm), (by first | walk_at "kp" | (intro y hy; simp only [List.mem_cons, not_or, List.not_mem_nil, not_false_eq_true, and_true] at hy; by_cases hq0 : y = Str.ofString "due"; (· subst hq0; rfl); by_cases hq1 : y = Str.ofString "tape"; (· subst hq1; rfl); simp only [setN, setO, hy, hq0, hq1, if_false])), news_sub (by k_asm) (fun p hp => .tail _ hp), .inr (.inr ⟨j, td, ud, vd, Tp, hj, hall, hin, hf, hDu, hTp⟩), hUn1, hsub1, hm1, hm2, hm3, hm4, hm5, hm6⟩
      case rest =>
        rintro f s' ⟨rfl, h9, tk9, nw2, Du2, m9, rfl, F9, hkp9, N9, hfd, hUn2, hsub2, hm1, hm2, hm3, hm4, hm5, hm6⟩
        obtain ⟨e1, e2, e3, rfl⟩ := hkp9.shape3
        have CHg : CodeHd g' 262 258 := hS.keeps B'.stays
        clear hkp9 N8 hdue hn1 hn2 hn3 hn4 hn5 hn6 hsub hsub1 N7 hl9 hLt hUn hUn1
        k_with_none
        k_with "LeaveT" => (k_dflt (refine' leaveT_ ?z66k1 ?z66k2 ?z66k3 ?_; (case z66k1 => k_asm); (case z66k2 => k_asm); (case z66k3 => first | assumption | exact KtsTurn.refl | exact KtsTurn.trans (by assumption) (by assumption)); intro _ _ _ _ _ _ _; (try dsimp only); (try k_fold)))
        k_with "callWith ref" => (k_here; k_dflt (refine' callWith_K ?z67k1 ?z67k2 ?_; (case z67k1 => k_asm); (case z67k2 => k_is); k_whole))
        k_with "exec Assign" => ((with_reducible show wpAny _ _ (exec (Stmt.Assign [Expr.Tuple _ _ _] _ _) _) _ _ _); refine Assign_Tuple ?_)
        k_with "call ref" => (k_here; k_dflt (refine' Con.use ?z69kC ?z69k1 ?z69k2 ?z69k3 ?z69k4 ?z69k5 ?z69kK ?z69kd ?z69ku ?_; (case z69k2 => k_asm); (case z69k4 => k_asm); (case z69kC => first | (refine' con_draw _ _ _ _ _ _ _ _ _ _ _ _ _ ?z69a1 ?z69a2 ?z69a3 ?z69a4 ?z69a5 ?z69a6 ?z69a7; (case z69a1 => k_updF); (case z69a2 => k_mem); (case z69a3 => assumption); (case z69a4 => assumption); (case z69a5 => assumption); (case z69a6 => omega); (case z69a7 => omega))); (case z69k1 => k_asm); (case z69k3 => k_asm); (case z69k5 => k_asm); (case z69kK => first | exact rfl | assumption); (case z69kd => ktr_room); (case z69ku => ktr_units); intro _ _ _ _ _ _ _ _ _ _; (try dsimp only); (try k_fold)))
        k_with "call ref" => (k_here; k_dflt (refine' Con.use ?z70kC ?z70k1 ?z70k2 ?z70k3 ?z70k4 ?z70k5 ?z70kK ?z70kd ?z70ku ?_; (case z70k2 => k_asm); (case z70k4 => k_asm); (case z70kC => first | (refine' con_words _ _ _ _ _ _ ?z70a1 ?z70a2 ?z70a3; (case z70a1 => k_mem); (case z70a2 => assumption); (case z70a3 => omega))); (case z70k1 => k_asm); (case z70k3 => k_asm); (case z70k5 => k_asm); (case z70kK => first | exact rfl | assumption); (case z70kd => ktr_room); (case z70ku => ktr_units); intro _ _ _ _ _ _ _ _ _; (try dsimp only); (try k_fold)))
        k_with "call ref" => (k_here; k_dflt (refine' Con.use ?z71kC ?z71k1 ?z71k2 ?z71k3 ?z71k4 ?z71k5 ?z71kK ?z71kd ?z71ku ?_; (case z71k2 => k_asm); (case z71k4 => k_asm); (case z71kC => first | (refine' con_codes _ _ _ _ _ _ ?z71a1 ?z71a2 ?z71a3 ?z71a4; (case z71a1 => k_mem); (case z71a2 => assumption); (case z71a3 => omega); (case z71a4 => assumption))); (case z71k1 => k_asm); (case z71k3 => k_asm); (case z71k5 => k_asm); (case z71kK => first | exact rfl | assumption); (case z71kd => ktr_room); (case z71ku => ktr_units); intro _ _ _ _ _ _ _ _ _; (try dsimp only); (try k_fold)))
        k_with "compareOp NotEq ref ref" => (k_here; (with_reducible show wpAny _ _ (compareOp CmpOp.NotEq (Value.ref _) (Value.ref _)) _ _ _); k_dflt (refine' ne_given ?z72gN ?z72g1 ?z72g2 ?z72g3 ?z72g4 ?z72g5 ?z72g6 ?z72gu ?_; (case z72gN => k_asm); (case z72g1 => k_mem); (case z72g4 => k_mem); (case z72g2 => k_mem); (case z72g3 => assumption); (case z72g5 => k_mem); (case z72g6 => assumption); (case z72gu => ke_room); k_whole))
        k_with "call ref" => (k_here; k_dflt (refine' ConX.use ?z73kC ?z73k1 ?z73k2 ?z73k3 ?z73k4 ?z73k5 ?z73kK ?z73kd ?z73ku ?_ ?_; (case z73k2 => k_asm); (case z73k4 => k_asm); (case z73kC => first | (refine' con_text _ _ _ _ _ _ ?z73a1 ?z73a2 ?z73a3; (case z73a1 => k_mem); (case z73a2 => assumption); (case z73a3 => omega))); (case z73k1 => k_asm); (case z73k3 => k_asm); (case z73k5 => k_asm); (case z73kK => first | exact rfl | assumption); (case z73kd => ktr_room); (case z73ku => ktr_units); intro _ _ _ _ _ _ _ _ _ _; (try dsimp only); (try k_fold); rotate_left; (refine ⟨?_, ?_⟩); (try dsimp only); rotate_right))
        k_with "call ref" => (k_here; k_dflt (refine' ConX.use ?z74kC ?z74k1 ?z74k2 ?z74k3 ?z74k4 ?z74k5 ?z74kK ?z74kd ?z74ku ?_ ?_; (case z74k2 => k_asm); (case z74k4 => k_asm); (case z74kC => first | (refine' con_units _ _ _ _ _ _ ?z74a1 ?z74a2 ?z74a3; (case z74a1 => k_mem); (case z74a2 => assumption); (case z74a3 => (simp only [List.length_append, List.length_take, List.length_drop, List.length_cons, List.length_nil]; omega)))); (case z74k1 => k_asm); (case z74k3 => k_asm); (case z74k5 => k_asm); (case z74kK => first | exact rfl | assumption); (case z74kd => ktr_room); (case z74ku => ktr_units); intro _ _ _ _ _ _ h9 tk9 _ _; (try dsimp only); (try k_fold); rotate_left; intro _ _ _ _ _ _ _ _ _ _ _ _; (try dsimp only); rotate_right))
        k_with "eval Name" => (k_here; (with_reducible show wpAny _ _ (eval (Expr.Name _ _) (envX _ _ _ _ _ _)) _ _ _); k_dflt (refine' nameX_F ?z75N ?z75c ?z75m ?z75d ?_ ?z75a ?z75b; (case z75a => rfl); (case z75b => rfl); (case z75N => k_asm); (case z75c => rfl); (case z75m => k_mem); (case z75d => k_asm); k_whole))
        k_with "call type:list" => (k_here; (with_reducible show wpAny _ _ (call (Value.type _) [Value.ref _]) _ _ _); k_dflt (refine' list_copyI ?z76F ?z76N ?z76m ?z76i ?z76z ?_; (case z76F => k_asm); (case z76N => k_asm); (case z76m => k_mem); (case z76i => assumption); (case z76z => omega)); intro _ _ _ _ _ _)
        k_with "exec If Compare cons nil" => (k_dflt (refine WStop.go ?_))
        k_steps
        unfold WStop
        refine wpAny_mono (Q := fun f s' => WrE (fun g2 => KtsTurn (frs (envX cn cs L a ccd cl :: outer)) g' g2 ∧ Below (ktrTop dp ux gd cn cs L a ccd cl outer) base (envX cn cs L a ccd cl :: outer) g2 ∧ (hdT.heap_1 w.params).In g2 ∧ Top topProg loose mean mg mb g2) L' TP TL p9 t9 n9 o1 o2 o3 o4 nw2 s f s') ?first ?rest fun _ _ x => x
        case rest =>
          rintro f s' ⟨rfl, g2, h2, tk2, m2, c9', rfl, ⟨K2, B2, X2, T2⟩, F2, hkp2, N2⟩
          obtain ⟨b1, b2, b3, b4, rfl⟩ := hkp2.shape4
          have CH2 : CodeHd g2 262 258 := hS.keeps B2.stays
          have hV2 : (V, listOf vv.toArray nv) ∈ nw2 := hsub2 _ hV
          have hTL2 : (TL, listOf vs.toArray k) ∈ nw2 := hsub2 _ hTL
          have hvv := IntsAre.length hv
          try clear F8
          try clear F9
          try clear N9
          try clear hfd
          try clear hUn2
          try clear CHg
          try clear X'
          try clear T'
          revert XB F2 N2 X2 T2 B2
          (repeat (rename News _ _ _ _ => xx9; clear xx9)); (repeat (rename Fr _ _ _ _ => xx9; clear xx9)); (repeat (rename Frag.In _ _ => xx9; clear xx9)); (repeat (rename StrsAre _ _ => xx9; clear xx9)); (repeat (rename Kp _ _ _ => xx9; clear xx9)); (repeat (rename DueAt _ _ _ _ => xx9; clear xx9)); (repeat (rename (_ < _ ∧ _) => xx9; clear xx9))
          intro XB B2 X2 T2 F2 N2
          k_with_none
          k_with "LeaveT" => (k_dflt (refine' leaveT_ ?z66k1 ?z66k2 ?z66k3 ?_; (case z66k1 => k_asm); (case z66k2 => k_asm); (case z66k3 => first | assumption | exact KtsTurn.refl | exact KtsTurn.trans (by assumption) (by assumption)); intro _ _ _ _ _ _ _; (try dsimp only); (try k_fold)))
          k_with "callWith ref" => (k_here; k_dflt (refine' callWith_K ?z67k1 ?z67k2 ?_; (case z67k1 => k_asm); (case z67k2 => k_is); k_whole))
          k_with "exec Assign" => ((with_reducible show wpAny _ _ (exec (Stmt.Assign [Expr.Tuple _ _ _] _ _) _) _ _ _); refine Assign_Tuple ?_)
          k_with "call ref" => (k_here; k_dflt (refine' Con.use ?z69kC ?z69k1 ?z69k2 ?z69k3 ?z69k4 ?z69k5 ?z69kK ?z69kd ?z69ku ?_; (case z69k2 => k_asm); (case z69k4 => k_asm); (case z69kC => first | (refine' con_draw _ _ _ _ _ _ _ _ _ _ _ _ _ ?z69a1 ?z69a2 ?z69a3 ?z69a4 ?z69a5 ?z69a6 ?z69a7; (case z69a1 => k_updF); (case z69a2 => k_mem); (case z69a3 => assumption); (case z69a4 => assumption); (case z69a5 => assumption); (case z69a6 => omega); (case z69a7 => omega))); (case z69k1 => k_asm); (case z69k3 => k_asm); (case z69k5 => k_asm); (case z69kK => first | exact rfl | assumption); (case z69kd => ktr_room); (case z69ku => ktr_units); intro _ _ _ _ _ _ _ _ _ _; (try dsimp only); (try k_fold)))
          k_with "call ref" => (k_here; k_dflt (refine' Con.use ?z70kC ?z70k1 ?z70k2 ?z70k3 ?z70k4 ?z70k5 ?z70kK ?z70kd ?z70ku ?_; (case z70k2 => k_asm); (case z70k4 => k_asm); (case z70kC => first | (refine' con_words _ _ _ _ _ _ ?z70a1 ?z70a2 ?z70a3; (case z70a1 => k_mem); (case z70a2 => assumption); (case z70a3 => omega))); (case z70k1 => k_asm); (case z70k3 => k_asm); (case z70k5 => k_asm); (case z70kK => first | exact rfl | assumption); (case z70kd => ktr_room); (case z70ku => ktr_units); intro _ _ _ _ _ _ _ _ _; (try dsimp only); (try k_fold)))
          k_with "call ref" => (k_here; k_dflt (refine' Con.use ?z71kC ?z71k1 ?z71k2 ?z71k3 ?z71k4 ?z71k5 ?z71kK ?z71kd ?z71ku ?_; (case z71k2 => k_asm); (case z71k4 => k_asm); (case z71kC => first | (refine' con_codes _ _ _ _ _ _ ?z71a1 ?z71a2 ?z71a3 ?z71a4; (case z71a1 => k_mem); (case z71a2 => assumption); (case z71a3 => omega); (case z71a4 => assumption))); (case z71k1 => k_asm); (case z71k3 => k_asm); (case z71k5 => k_asm); (case z71kK => first | exact rfl | assumption); (case z71kd => ktr_room); (case z71ku => ktr_units); intro _ _ _ _ _ _ _ _ _; (try dsimp only); (try k_fold)))
          k_with "compareOp NotEq ref ref" => (k_here; (with_reducible show wpAny _ _ (compareOp CmpOp.NotEq (Value.ref _) (Value.ref _)) _ _ _); k_dflt (refine' ne_given ?z72gN ?z72g1 ?z72g2 ?z72g3 ?z72g4 ?z72g5 ?z72g6 ?z72gu ?_; (case z72gN => k_asm); (case z72g1 => k_mem); (case z72g4 => k_mem); (case z72g2 => k_mem); (case z72g3 => assumption); (case z72g5 => k_mem); (case z72g6 => assumption); (case z72gu => ke_room); k_whole))
          k_with "call ref" => (k_here; k_dflt (refine' ConX.use ?z73kC ?z73k1 ?z73k2 ?z73k3 ?z73k4 ?z73k5 ?z73kK ?z73kd ?z73ku ?_ ?_; (case z73k2 => k_asm); (case z73k4 => k_asm); (case z73kC => first | (refine' con_text _ _ _ _ _ _ ?z73a1 ?z73a2 ?z73a3; (case z73a1 => k_mem); (case z73a2 => assumption); (case z73a3 => omega))); (case z73k1 => k_asm); (case z73k3 => k_asm); (case z73k5 => k_asm); (case z73kK => first | exact rfl | assumption); (case z73kd => ktr_room); (case z73ku => ktr_units); intro _ _ _ _ _ _ _ _ _ _; (try dsimp only); (try k_fold); rotate_left; (refine ⟨?_, ?_⟩); (try dsimp only); rotate_right))
          k_with "call ref" => (k_here; k_dflt (refine' ConX.use ?z74kC ?z74k1 ?z74k2 ?z74k3 ?z74k4 ?z74k5 ?z74kK ?z74kd ?z74ku ?_ ?_; (case z74k2 => k_asm); (case z74k4 => k_asm); (case z74kC => first | (refine' con_units _ _ _ _ _ _ ?z74a1 ?z74a2 ?z74a3; (case z74a1 => k_mem); (case z74a2 => assumption); (case z74a3 => (simp only [List.length_append, List.length_take, List.length_drop, List.length_cons, List.length_nil]; omega)))); (case z74k1 => k_asm); (case z74k3 => k_asm); (case z74k5 => k_asm); (case z74kK => first | exact rfl | assumption); (case z74kd => ktr_room); (case z74ku => ktr_units); intro _ _ _ _ _ _ h9 tk9 _ _; (try dsimp only); (try k_fold); rotate_left; intro _ _ _ _ _ _ _ _ _ _ _ _; (try dsimp only); rotate_right))
          k_with "eval Name" => (k_here; (with_reducible show wpAny _ _ (eval (Expr.Name _ _) (envX _ _ _ _ _ _)) _ _ _); k_dflt (refine' nameX_F ?z75N ?z75c ?z75m ?z75d ?_ ?z75a ?z75b; (case z75a => rfl); (case z75b => rfl); (case z75N => k_asm); (case z75c => rfl); (case z75m => k_mem); (case z75d => k_asm); k_whole))
          k_with "call type:list" => (k_here; (with_reducible show wpAny _ _ (call (Value.type _) [Value.ref _]) _ _ _); k_dflt (refine' list_copyI ?z76F ?z76N ?z76m ?z76i ?z76z ?_; (case z76F => k_asm); (case z76N => k_asm); (case z76m => k_mem); (case z76i => assumption); (case z76z => omega)); intro _ _ _ _ _ _)
          k_with "exec Return some" => (k_dflt (refine WStop.go ?_))
          k_steps
          unfold WStop
          rename Obj.data _ = Data.cell (some (Value.int (List.getD _ _ _) _)) => dO
          have hz9 := odd_all dO (by assumption) (by assumption)
          clear dO
          obtain ⟨O, hob, dO⟩ := hz9
          k_with_none
          k_with "LeaveT" => (k_dflt (refine' leaveT_ ?z66k1 ?z66k2 ?z66k3 ?_; (case z66k1 => k_asm); (case z66k2 => k_asm); (case z66k3 => first | assumption | exact KtsTurn.refl | exact KtsTurn.trans (by assumption) (by assumption)); intro _ _ _ _ _ _ _; (try dsimp only); (try k_fold)))
          k_with "callWith ref" => (k_here; k_dflt (refine' callWith_K ?z67k1 ?z67k2 ?_; (case z67k1 => k_asm); (case z67k2 => k_is); k_whole))
          k_with "exec Assign" => ((with_reducible show wpAny _ _ (exec (Stmt.Assign [Expr.Tuple _ _ _] _ _) _) _ _ _); refine Assign_Tuple ?_)
          k_with "call ref" => (k_here; k_dflt (refine' Con.use ?z69kC ?z69k1 ?z69k2 ?z69k3 ?z69k4 ?z69k5 ?z69kK ?z69kd ?z69ku ?_; (case z69k2 => k_asm); (case z69k4 => k_asm); (case z69kC => first | (refine' con_draw _ _ _ _ _ _ _ _ _ _ _ _ _ ?z69a1 ?z69a2 ?z69a3 ?z69a4 ?z69a5 ?z69a6 ?z69a7; (case z69a1 => k_updF); (case z69a2 => k_mem); (case z69a3 => assumption); (case z69a4 => assumption); (case z69a5 => assumption); (case z69a6 => omega); (case z69a7 => omega))); (case z69k1 => k_asm); (case z69k3 => k_asm); (case z69k5 => k_asm); (case z69kK => first | exact rfl | assumption); (case z69kd => ktr_room); (case z69ku => ktr_units); intro _ _ _ _ _ _ _ _ _ _; (try dsimp only); (try k_fold)))
          k_with "call ref" => (k_here; k_dflt (refine' Con.use ?z70kC ?z70k1 ?z70k2 ?z70k3 ?z70k4 ?z70k5 ?z70kK ?z70kd ?z70ku ?_; (case z70k2 => k_asm); (case z70k4 => k_asm); (case z70kC => first | (refine' con_words _ _ _ _ _ _ ?z70a1 ?z70a2 ?z70a3; (case z70a1 => k_mem); (case z70a2 => assumption); (case z70a3 => omega))); (case z70k1 => k_asm); (case z70k3 => k_asm); (case z70k5 => k_asm); (case z70kK => first | exact rfl | assumption); (case z70kd => ktr_room); (case z70ku => ktr_units); intro _ _ _ _ _ _ _ _ _; (try dsimp only); (try k_fold)))
          k_with "call ref" => (k_here; k_dflt (refine' Con.use ?z71kC ?z71k1 ?z71k2 ?z71k3 ?z71k4 ?z71k5 ?z71kK ?z71kd ?z71ku ?_; (case z71k2 => k_asm); (case z71k4 => k_asm); (case z71kC => first | (refine' con_codes _ _ _ _ _ _ ?z71a1 ?z71a2 ?z71a3 ?z71a4; (case z71a1 => k_mem); (case z71a2 => assumption); (case z71a3 => omega); (case z71a4 => assumption))); (case z71k1 => k_asm); (case z71k3 => k_asm); (case z71k5 => k_asm); (case z71kK => first | exact rfl | assumption); (case z71kd => ktr_room); (case z71ku => ktr_units); intro _ _ _ _ _ _ _ _ _; (try dsimp only); (try k_fold)))
          k_with "compareOp NotEq ref ref" => (k_here; (with_reducible show wpAny _ _ (compareOp CmpOp.NotEq (Value.ref _) (Value.ref _)) _ _ _); k_dflt (refine' ne_given ?z72gN ?z72g1 ?z72g2 ?z72g3 ?z72g4 ?z72g5 ?z72g6 ?z72gu ?_; (case z72gN => k_asm); (case z72g1 => k_mem); (case z72g4 => k_mem); (case z72g2 => k_mem); (case z72g3 => assumption); (case z72g5 => k_mem); (case z72g6 => assumption); (case z72gu => ke_room); k_whole))
          k_with "call ref" => (k_here; k_dflt (refine' ConX.use ?z73kC ?z73k1 ?z73k2 ?z73k3 ?z73k4 ?z73k5 ?z73kK ?z73kd ?z73ku ?_ ?_; (case z73k2 => k_asm); (case z73k4 => k_asm); (case z73kC => first | (refine' con_text _ _ _ _ _ _ ?z73a1 ?z73a2 ?z73a3; (case z73a1 => k_mem); (case z73a2 => assumption); (case z73a3 => omega))); (case z73k1 => k_asm); (case z73k3 => k_asm); (case z73k5 => k_asm); (case z73kK => first | exact rfl | assumption); (case z73kd => ktr_room); (case z73ku => ktr_units); intro _ _ _ _ _ _ _ _ _ _; (try dsimp only); (try k_fold); rotate_left; (refine ⟨?_, ?_⟩); (try dsimp only); rotate_right))
          k_with "call ref" => (k_here; k_dflt (refine' ConX.use ?z74kC ?z74k1 ?z74k2 ?z74k3 ?z74k4 ?z74k5 ?z74kK ?z74kd ?z74ku ?_ ?_; (case z74k2 => k_asm); (case z74k4 => k_asm); (case z74kC => first | (refine' con_units _ _ _ _ _ _ ?z74a1 ?z74a2 ?z74a3; (case z74a1 => k_mem); (case z74a2 => assumption); (case z74a3 => (simp only [List.length_append, List.length_take, List.length_drop, List.length_cons, List.length_nil]; omega)))); (case z74k1 => k_asm); (case z74k3 => k_asm); (case z74k5 => k_asm); (case z74kK => first | exact rfl | assumption); (case z74kd => ktr_room); (case z74ku => ktr_units); intro _ _ _ _ _ _ h9 tk9 _ _; (try dsimp only); (try k_fold); rotate_left; intro _ _ _ _ _ _ _ _ _ _ _ _; (try dsimp only); rotate_right))
          k_with "eval Name" => (k_here; (with_reducible show wpAny _ _ (eval (Expr.Name _ _) (envX _ _ _ _ _ _)) _ _ _); k_dflt (refine' nameX_F ?z75N ?z75c ?z75m ?z75d ?_ ?z75a ?z75b; (case z75a => rfl); (case z75b => rfl); (case z75N => k_asm); (case z75c => rfl); (case z75m => k_mem); (case z75d => k_asm); k_whole))
          k_with "call type:list" => (k_here; (with_reducible show wpAny _ _ (call (Value.type _) [Value.ref _]) _ _ _); k_dflt (refine' list_copyI ?z76F ?z76N ?z76m ?z76i ?z76z ?_; (case z76F => k_asm); (case z76N => k_asm); (case z76m => k_mem); (case z76i => assumption); (case z76z => omega)); intro _ _ _ _ _ _)
          k_with "call ref" => (k_dflt (refine WStop.go ?_))
          k_with "call ref" => (k_here; k_dflt (refine' Con.use ?z69kC ?z69k1 ?z69k2 ?z69k3 ?z69k4 ?z69k5 ?z69kK ?z69kd ?z69ku ?_; (case z69k2 => k_asm); (case z69k4 => k_asm); (case z69kC => first | (refine' con_draw _ _ _ _ _ _ _ _ _ _ _ _ _ ?z69a1 ?z69a2 ?z69a3 ?z69a4 ?z69a5 ?z69a6 ?z69a7; (case z69a1 => k_updF); (case z69a2 => k_mem); (case z69a3 => assumption); (case z69a4 => assumption); (case z69a5 => assumption); (case z69a6 => omega); (case z69a7 => omega))); (case z69k1 => k_asm); (case z69k3 => k_asm); (case z69k5 => k_asm); (case z69kK => first | exact rfl | assumption); (case z69kd => ktr_room); (case z69ku => ktr_units); intro _ _ _ _ _ _ _ _ _ _; (try dsimp only); (try k_fold)))
          k_with "call ref" => (k_here; k_dflt (refine' Con.use ?z70kC ?z70k1 ?z70k2 ?z70k3 ?z70k4 ?z70k5 ?z70kK ?z70kd ?z70ku ?_; (case z70k2 => k_asm); (case z70k4 => k_asm); (case z70kC => first | (refine' con_words _ _ _ _ _ _ ?z70a1 ?z70a2 ?z70a3; (case z70a1 => k_mem); (case z70a2 => assumption); (case z70a3 => omega))); (case z70k1 => k_asm); (case z70k3 => k_asm); (case z70k5 => k_asm); (case z70kK => first | exact rfl | assumption); (case z70kd => ktr_room); (case z70ku => ktr_units); intro _ _ _ _ _ _ _ _ _; (try dsimp only); (try k_fold)))
          k_with "call ref" => (k_here; k_dflt (refine' Con.use ?z71kC ?z71k1 ?z71k2 ?z71k3 ?z71k4 ?z71k5 ?z71kK ?z71kd ?z71ku ?_; (case z71k2 => k_asm); (case z71k4 => k_asm); (case z71kC => first | (refine' con_codes _ _ _ _ _ _ ?z71a1 ?z71a2 ?z71a3 ?z71a4; (case z71a1 => k_mem); (case z71a2 => assumption); (case z71a3 => omega); (case z71a4 => assumption))); (case z71k1 => k_asm); (case z71k3 => k_asm); (case z71k5 => k_asm); (case z71kK => first | exact rfl | assumption); (case z71kd => ktr_room); (case z71ku => ktr_units); intro _ _ _ _ _ _ _ _ _; (try dsimp only); (try k_fold)))
          k_with "call ref" => (k_here; k_dflt (refine' ConX.use ?z73kC ?z73k1 ?z73k2 ?z73k3 ?z73k4 ?z73k5 ?z73kK ?z73kd ?z73ku ?_ ?_; (case z73k2 => k_asm); (case z73k4 => k_asm); (case z73kC => first | (refine' con_text _ _ _ _ _ _ ?z73a1 ?z73a2 ?z73a3; (case z73a1 => k_mem); (case z73a2 => assumption); (case z73a3 => omega))); (case z73k1 => k_asm); (case z73k3 => k_asm); (case z73k5 => k_asm); (case z73kK => first | exact rfl | assumption); (case z73kd => ktr_room); (case z73ku => ktr_units); intro _ _ _ _ _ _ _ _ _ _; (try dsimp only); (try k_fold); rotate_left; (refine ⟨?_, ?_⟩); (try dsimp only); rotate_right))
          k_with "call ref" => (k_here; k_dflt (refine' ConX.use ?z74kC ?z74k1 ?z74k2 ?z74k3 ?z74k4 ?z74k5 ?z74kK ?z74kd ?z74ku ?_ ?_; (case z74k2 => k_asm); (case z74k4 => k_asm); (case z74kC => first | (refine' con_units _ _ _ _ _ _ ?z74a1 ?z74a2 ?z74a3; (case z74a1 => k_mem); (case z74a2 => assumption); (case z74a3 => (simp only [List.length_append, List.length_take, List.length_drop, List.length_cons, List.length_nil]; omega)))); (case z74k1 => k_asm); (case z74k3 => k_asm); (case z74k5 => k_asm); (case z74kK => first | exact rfl | assumption); (case z74kd => ktr_room); (case z74ku => ktr_units); intro _ _ _ _ _ _ h9 tk9 _ _; (try dsimp only); (try k_fold); rotate_left; intro _ _ _ _ _ _ _ _ _ _ _ _; (try dsimp only); rotate_right))
          k_steps
          unfold WStop
          k_with_none
          k_with "LeaveT" => (k_dflt (refine' leaveT_ ?z66k1 ?z66k2 ?z66k3 ?_; (case z66k1 => k_asm); (case z66k2 => k_asm); (case z66k3 => first | assumption | exact KtsTurn.refl | exact KtsTurn.trans (by assumption) (by assumption)); intro _ _ _ _ _ _ _; (try dsimp only); (try k_fold)))
          k_with "callWith ref" => (k_here; k_dflt (refine' callWith_K ?z67k1 ?z67k2 ?_; (case z67k1 => k_asm); (case z67k2 => k_is); k_whole))
          k_with "exec Assign" => ((with_reducible show wpAny _ _ (exec (Stmt.Assign [Expr.Tuple _ _ _] _ _) _) _ _ _); refine Assign_Tuple ?_)
          k_with "call ref" => (k_here; k_dflt (refine' Con.use ?z69kC ?z69k1 ?z69k2 ?z69k3 ?z69k4 ?z69k5 ?z69kK ?z69kd ?z69ku ?_; (case z69k2 => k_asm); (case z69k4 => k_asm); (case z69kC => first | (refine' con_draw _ _ _ _ _ _ _ _ _ _ _ _ _ ?z69a1 ?z69a2 ?z69a3 ?z69a4 ?z69a5 ?z69a6 ?z69a7; (case z69a1 => k_updF); (case z69a2 => k_mem); (case z69a3 => assumption); (case z69a4 => assumption); (case z69a5 => assumption); (case z69a6 => omega); (case z69a7 => omega))); (case z69k1 => k_asm); (case z69k3 => k_asm); (case z69k5 => k_asm); (case z69kK => first | exact rfl | assumption); (case z69kd => ktr_room); (case z69ku => ktr_units); intro _ _ _ _ _ _ _ _ _ _; (try dsimp only); (try k_fold)))
          k_with "call ref" => (k_here; k_dflt (refine' Con.use ?z70kC ?z70k1 ?z70k2 ?z70k3 ?z70k4 ?z70k5 ?z70kK ?z70kd ?z70ku ?_; (case z70k2 => k_asm); (case z70k4 => k_asm); (case z70kC => first | (refine' con_words _ _ _ _ _ _ ?z70a1 ?z70a2 ?z70a3; (case z70a1 => k_mem); (case z70a2 => assumption); (case z70a3 => omega))); (case z70k1 => k_asm); (case z70k3 => k_asm); (case z70k5 => k_asm); (case z70kK => first | exact rfl | assumption); (case z70kd => ktr_room); (case z70ku => ktr_units); intro _ _ _ _ _ _ _ _ _; (try dsimp only); (try k_fold)))
          k_with "call ref" => (k_here; k_dflt (refine' Con.use ?z71kC ?z71k1 ?z71k2 ?z71k3 ?z71k4 ?z71k5 ?z71kK ?z71kd ?z71ku ?_; (case z71k2 => k_asm); (case z71k4 => k_asm); (case z71kC => first | (refine' con_codes _ _ _ _ _ _ ?z71a1 ?z71a2 ?z71a3 ?z71a4; (case z71a1 => k_mem); (case z71a2 => assumption); (case z71a3 => omega); (case z71a4 => assumption))); (case z71k1 => k_asm); (case z71k3 => k_asm); (case z71k5 => k_asm); (case z71kK => first | exact rfl | assumption); (case z71kd => ktr_room); (case z71ku => ktr_units); intro _ _ _ _ _ _ _ _ _; (try dsimp only); (try k_fold)))
          k_with "compareOp NotEq ref ref" => (k_here; (with_reducible show wpAny _ _ (compareOp CmpOp.NotEq (Value.ref _) (Value.ref _)) _ _ _); k_dflt (refine' ne_given ?z72gN ?z72g1 ?z72g2 ?z72g3 ?z72g4 ?z72g5 ?z72g6 ?z72gu ?_; (case z72gN => k_asm); (case z72g1 => k_mem); (case z72g4 => k_mem); (case z72g2 => k_mem); (case z72g3 => assumption); (case z72g5 => k_mem); (case z72g6 => assumption); (case z72gu => ke_room); k_whole))
          k_with "call ref" => (k_here; k_dflt (refine' ConX.use ?z73kC ?z73k1 ?z73k2 ?z73k3 ?z73k4 ?z73k5 ?z73kK ?z73kd ?z73ku ?_ ?_; (case z73k2 => k_asm); (case z73k4 => k_asm); (case z73kC => first | (refine' con_text _ _ _ _ _ _ ?z73a1 ?z73a2 ?z73a3; (case z73a1 => k_mem); (case z73a2 => assumption); (case z73a3 => omega))); (case z73k1 => k_asm); (case z73k3 => k_asm); (case z73k5 => k_asm); (case z73kK => first | exact rfl | assumption); (case z73kd => ktr_room); (case z73ku => ktr_units); intro _ _ _ _ _ _ _ _ _ _; (try dsimp only); (try k_fold); rotate_left; (refine ⟨?_, ?_⟩); (try dsimp only); rotate_right))
          k_with "call ref" => (k_here; k_dflt (refine' ConX.use ?z74kC ?z74k1 ?z74k2 ?z74k3 ?z74k4 ?z74k5 ?z74kK ?z74kd ?z74ku ?_ ?_; (case z74k2 => k_asm); (case z74k4 => k_asm); (case z74kC => first | (refine' con_units _ _ _ _ _ _ ?z74a1 ?z74a2 ?z74a3; (case z74a1 => k_mem); (case z74a2 => assumption); (case z74a3 => (simp only [List.length_append, List.length_take, List.length_drop, List.length_cons, List.length_nil]; omega)))); (case z74k1 => k_asm); (case z74k3 => k_asm); (case z74k5 => k_asm); (case z74kK => first | exact rfl | assumption); (case z74kd => ktr_room); (case z74ku => ktr_units); intro _ _ _ _ _ _ h9 tk9 _ _; (try dsimp only); (try k_fold); rotate_left; intro _ _ _ _ _ _ _ _ _ _ _ _; (try dsimp only); rotate_right))
          k_with "eval Name" => (k_here; (with_reducible show wpAny _ _ (eval (Expr.Name _ _) (envX _ _ _ _ _ _)) _ _ _); k_dflt (refine' nameX_F ?z75N ?z75c ?z75m ?z75d ?_ ?z75a ?z75b; (case z75a => rfl); (case z75b => rfl); (case z75N => k_asm); (case z75c => rfl); (case z75m => k_mem); (case z75d => k_asm); k_whole))
          k_with "call type:list" => (k_here; (with_reducible show wpAny _ _ (call (Value.type _) [Value.ref _]) _ _ _); k_dflt (refine' list_copyI ?z76F ?z76N ?z76m ?z76i ?z76z ?_; (case z76F => k_asm); (case z76N => k_asm); (case z76m => k_mem); (case z76i => assumption); (case z76z => omega)); intro _ _ _ _ _ _)
          k_dflt (refine' ConT.use (con_heard_one w _ _ _ _ _ _ (.head _) (dd := 60) (uu := 600) (odd := O) ?C) ?k1 ?k2 ?k3 ?k4 ?k5 ?kXB ?kTB trivial ?kK ?kd ?ku ?_)
          case k2 => k_asm
          case k4 => k_asm
          case k1 => k_asm
          case k3 => k_asm
          case k5 => k_asm
          case kXB => assumption
          case kTB => assumption
          case kK => rfl
          case kd => ktr_room
          case ku => ktr_units
          case C =>
            (repeat (rename News _ _ _ _ => xx9; clear xx9)); (repeat (rename Fr _ _ _ _ => xx9; clear xx9)); (repeat (rename Frag.In _ _ => xx9; clear xx9)); (repeat (rename StrsAre _ _ => xx9; clear xx9)); (repeat (rename Kp _ _ _ => xx9; clear xx9)); (repeat (rename DueAt _ _ _ _ => xx9; clear xx9)); (repeat (rename (_ < _ ∧ _) => xx9; clear xx9)); (repeat (rename Below _ _ _ _ => xx9; clear xx9)); (repeat (rename Top _ _ _ _ _ _ => xx9; clear xx9)); (repeat (rename CodeHd _ _ _ => xx9; clear xx9)); (repeat (rename KtsTurn _ _ _ => xx9; clear xx9)); (try clear hm1); (try clear hm2); (try clear hm3); (try clear hm4); (try clear hm5); (try clear hm6); (try clear hTPl); (try clear h2l); (try clear hPl); (try clear hP); (try clear hT); (try clear hS); (try clear CH); (try clear CH2); (try clear l1); (try clear hPT); (try clear hne); (try clear hTL); (try clear hTL2); (try clear hsub2); (try clear hfd); (try clear hp9); (try clear hll); (try clear hUn1); (try clear hlen); (try clear hi); (try clear hPT')
            unfold ConX
            intro loose mean mg mb dp ux gd cn cs a ccd cl outer A₀ base h₀ L m s Q E B F X N T hk hdp hun hret herr
            refine wpAny_call ?_
            k_dflt (refine' kla_code ?k1 ?k2 ?k3 ?k4 ?k5 ?kA ?kF ?kK ?k6 ?k7 ?k8 ?k9 ?kB ?_ ?c2 ?c3 ?c4 ?c5; (case kA => exact rfl); (case kF => exact rfl); (case kK => assumption); (case k1 => k_asm); (case k2 => k_asm); (case k3 => k_asm); (case k4 => k_asm); (case k5 => k_asm); (case k6 => k_mem); (case k7 => exact codeRec_news (by k_asm) (by k_mem) (by assumption) (by assumption)); (case k8 => ktr_room); (case k9 => exact rfl); (case c5 => decide); (case kB => exact locs rfl); (case c2 => exact rfl); (case c3 => exact rfl); (case c4 => exact rfl); k_whole; intro g' L' h' FG' F' N' B' X' T'; (try dsimp only); (try k_fold))
            replace F' : Fr g' L' h' (fun _ => none) := fr_eq F' (by rfl)
            try generalize s.toks + List.length _ = tk0
            k_with "call type:list" => (k_dflt (refine WStop.go ?_))
            k_with "call type:list" => (k_here; (with_reducible show wpAny _ _ (call (Value.type _) [Value.ref _]) _ _ _); k_dflt (refine' list_copyI ?z76F ?z76N ?z76m ?z76i ?z76z ?_; (case z76F => k_asm); (case z76N => k_asm); (case z76m => k_mem); (case z76i => assumption); (case z76z => omega)); intro _ _ _ _ _ _)
            k_steps
            · exact absurd ‹List.find? _ _ = none› (by rw [find_odd _ _ _ _ hsc hob]; exact fun h => nomatch h)
            · rename List.find? _ _ = some _ => hfo
              rw [find_odd _ _ _ _ hsc hob] at hfo
              obtain rfl := Option.some.inj hfo
              refine leave_onX (by k_asm) (by k_asm) (by assumption) (by assumption) fun h' R' U' => ?_
              exact herr _ _ _ _ _ _ _ (RaisedX.sub R' (sub_due (x := [_, _, _, _, _]))) FG' U'
          · intro u9 tp t9' htp g3 h3 tk3 K3 B3 X3 T3 F3 N3
            k_steps
            refine hret _ _ _ _ ?hp9 _ _ _ (by assumption) (by assumption) (by assumption) (by assumption) (by assumption) (news_sub (by assumption) (sub_end (x := [_, _, _, _, _, _, _, _, _, _]) hsub2))
            omega
        k_with_none
        k_with "LeaveT" => (k_dflt (refine' leaveT_ ?z66k1 ?z66k2 ?z66k3 ?_; (case z66k1 => k_asm); (case z66k2 => k_asm); (case z66k3 => first | assumption | exact KtsTurn.refl | exact KtsTurn.trans (by assumption) (by assumption)); intro _ _ _ _ _ _ _; (try dsimp only); (try k_fold)))
        k_with "callWith ref" => (k_here; k_dflt (refine' callWith_K ?z67k1 ?z67k2 ?_; (case z67k1 => k_asm); (case z67k2 => k_is); k_whole))
        k_with "exec Assign" => ((with_reducible show wpAny _ _ (exec (Stmt.Assign [Expr.Tuple _ _ _] _ _) _) _ _ _); refine Assign_Tuple ?_)
        k_with "call ref" => (k_here; k_dflt (refine' Con.use ?z69kC ?z69k1 ?z69k2 ?z69k3 ?z69k4 ?z69k5 ?z69kK ?z69kd ?z69ku ?_; (case z69k2 => k_asm); (case z69k4 => k_asm); (case z69kC => first | (refine' con_draw _ _ _ _ _ _ _ _ _ _ _ _ _ ?z69a1 ?z69a2 ?z69a3 ?z69a4 ?z69a5 ?z69a6 ?z69a7; (case z69a1 => k_updF); (case z69a2 => k_mem); (case z69a3 => assumption); (case z69a4 => assumption); (case z69a5 => assumption); (case z69a6 => omega); (case z69a7 => omega))); (case z69k1 => k_asm); (case z69k3 => k_asm); (case z69k5 => k_asm); (case z69kK => first | exact rfl | assumption); (case z69kd => ktr_room); (case z69ku => ktr_units); intro _ _ _ _ _ _ _ _ _ _; (try dsimp only); (try k_fold)))
        k_with "call ref" => (k_here; k_dflt (refine' Con.use ?z70kC ?z70k1 ?z70k2 ?z70k3 ?z70k4 ?z70k5 ?z70kK ?z70kd ?z70ku ?_; (case z70k2 => k_asm); (case z70k4 => k_asm); (case z70kC => first | (refine' con_words _ _ _ _ _ _ ?z70a1 ?z70a2 ?z70a3; (case z70a1 => k_mem); (case z70a2 => assumption); (case z70a3 => omega))); (case z70k1 => k_asm); (case z70k3 => k_asm); (case z70k5 => k_asm); (case z70kK => first | exact rfl | assumption); (case z70kd => ktr_room); (case z70ku => ktr_units); intro _ _ _ _ _ _ _ _ _; (try dsimp only); (try k_fold)))
        k_with "call ref" => (k_here; k_dflt (refine' Con.use ?z71kC ?z71k1 ?z71k2 ?z71k3 ?z71k4 ?z71k5 ?z71kK ?z71kd ?z71ku ?_; (case z71k2 => k_asm); (case z71k4 => k_asm); (case z71kC => first | (refine' con_codes _ _ _ _ _ _ ?z71a1 ?z71a2 ?z71a3 ?z71a4; (case z71a1 => k_mem); (case z71a2 => assumption); (case z71a3 => omega); (case z71a4 => assumption))); (case z71k1 => k_asm); (case z71k3 => k_asm); (case z71k5 => k_asm); (case z71kK => first | exact rfl | assumption); (case z71kd => ktr_room); (case z71ku => ktr_units); intro _ _ _ _ _ _ _ _ _; (try dsimp only); (try k_fold)))
        k_with "compareOp NotEq ref ref" => (k_here; (with_reducible show wpAny _ _ (compareOp CmpOp.NotEq (Value.ref _) (Value.ref _)) _ _ _); k_dflt (refine' ne_given ?z72gN ?z72g1 ?z72g2 ?z72g3 ?z72g4 ?z72g5 ?z72g6 ?z72gu ?_; (case z72gN => k_asm); (case z72g1 => k_mem); (case z72g4 => k_mem); (case z72g2 => k_mem); (case z72g3 => assumption); (case z72g5 => k_mem); (case z72g6 => assumption); (case z72gu => ke_room); k_whole))
        k_with "call ref" => (k_here; k_dflt (refine' ConX.use ?z73kC ?z73k1 ?z73k2 ?z73k3 ?z73k4 ?z73k5 ?z73kK ?z73kd ?z73ku ?_ ?_; (case z73k2 => k_asm); (case z73k4 => k_asm); (case z73kC => first | (refine' con_text _ _ _ _ _ _ ?z73a1 ?z73a2 ?z73a3; (case z73a1 => k_mem); (case z73a2 => assumption); (case z73a3 => omega))); (case z73k1 => k_asm); (case z73k3 => k_asm); (case z73k5 => k_asm); (case z73kK => first | exact rfl | assumption); (case z73kd => ktr_room); (case z73ku => ktr_units); intro _ _ _ _ _ _ _ _ _ _; (try dsimp only); (try k_fold); rotate_left; (refine ⟨?_, ?_⟩); (try dsimp only); rotate_right))
        k_with "call ref" => (k_here; k_dflt (refine' ConX.use ?z74kC ?z74k1 ?z74k2 ?z74k3 ?z74k4 ?z74k5 ?z74kK ?z74kd ?z74ku ?_ ?_; (case z74k2 => k_asm); (case z74k4 => k_asm); (case z74kC => first | (refine' con_units _ _ _ _ _ _ ?z74a1 ?z74a2 ?z74a3; (case z74a1 => k_mem); (case z74a2 => assumption); (case z74a3 => (simp only [List.length_append, List.length_take, List.length_drop, List.length_cons, List.length_nil]; omega)))); (case z74k1 => k_asm); (case z74k3 => k_asm); (case z74k5 => k_asm); (case z74kK => first | exact rfl | assumption); (case z74kd => ktr_room); (case z74ku => ktr_units); intro _ _ _ _ _ _ h9 tk9 _ _; (try dsimp only); (try k_fold); rotate_left; intro _ _ _ _ _ _ _ _ _ _ _ _; (try dsimp only); rotate_right))
        k_with "eval Name" => (k_here; (with_reducible show wpAny _ _ (eval (Expr.Name _ _) (envX _ _ _ _ _ _)) _ _ _); k_dflt (refine' nameX_F ?z75N ?z75c ?z75m ?z75d ?_ ?z75a ?z75b; (case z75a => rfl); (case z75b => rfl); (case z75N => k_asm); (case z75c => rfl); (case z75m => k_mem); (case z75d => k_asm); k_whole))
        k_with "call type:list" => (k_here; (with_reducible show wpAny _ _ (call (Value.type _) [Value.ref _]) _ _ _); k_dflt (refine' list_copyI ?z76F ?z76N ?z76m ?z76i ?z76z ?_; (case z76F => k_asm); (case z76N => k_asm); (case z76m => k_mem); (case z76i => assumption); (case z76z => omega)); intro _ _ _ _ _ _)
        k_with "call ref" => (k_dflt (refine WStop.go ?_))
        k_with "call ref" => (k_here; k_dflt (refine' Con.use ?z69kC ?z69k1 ?z69k2 ?z69k3 ?z69k4 ?z69k5 ?z69kK ?z69kd ?z69ku ?_; (case z69k2 => k_asm); (case z69k4 => k_asm); (case z69kC => first | (refine' con_draw _ _ _ _ _ _ _ _ _ _ _ _ _ ?z69a1 ?z69a2 ?z69a3 ?z69a4 ?z69a5 ?z69a6 ?z69a7; (case z69a1 => k_updF); (case z69a2 => k_mem); (case z69a3 => assumption); (case z69a4 => assumption); (case z69a5 => assumption); (case z69a6 => omega); (case z69a7 => omega))); (case z69k1 => k_asm); (case z69k3 => k_asm); (case z69k5 => k_asm); (case z69kK => first | exact rfl | assumption); (case z69kd => ktr_room); (case z69ku => ktr_units); intro _ _ _ _ _ _ _ _ _ _; (try dsimp only); (try k_fold)))
        k_with "call ref" => (k_here; k_dflt (refine' Con.use ?z70kC ?z70k1 ?z70k2 ?z70k3 ?z70k4 ?z70k5 ?z70kK ?z70kd ?z70ku ?_; (case z70k2 => k_asm); (case z70k4 => k_asm); (case z70kC => first | (refine' con_words _ _ _ _ _ _ ?z70a1 ?z70a2 ?z70a3; (case z70a1 => k_mem); (case z70a2 => assumption); (case z70a3 => omega))); (case z70k1 => k_asm); (case z70k3 => k_asm); (case z70k5 => k_asm); (case z70kK => first | exact rfl | assumption); (case z70kd => ktr_room); (case z70ku => ktr_units); intro _ _ _ _ _ _ _ _ _; (try dsimp only); (try k_fold)))
        k_with "call ref" => (k_here; k_dflt (refine' Con.use ?z71kC ?z71k1 ?z71k2 ?z71k3 ?z71k4 ?z71k5 ?z71kK ?z71kd ?z71ku ?_; (case z71k2 => k_asm); (case z71k4 => k_asm); (case z71kC => first | (refine' con_codes _ _ _ _ _ _ ?z71a1 ?z71a2 ?z71a3 ?z71a4; (case z71a1 => k_mem); (case z71a2 => assumption); (case z71a3 => omega); (case z71a4 => assumption))); (case z71k1 => k_asm); (case z71k3 => k_asm); (case z71k5 => k_asm); (case z71kK => first | exact rfl | assumption); (case z71kd => ktr_room); (case z71ku => ktr_units); intro _ _ _ _ _ _ _ _ _; (try dsimp only); (try k_fold)))
        k_with "call ref" => (k_here; k_dflt (refine' ConX.use ?z73kC ?z73k1 ?z73k2 ?z73k3 ?z73k4 ?z73k5 ?z73kK ?z73kd ?z73ku ?_ ?_; (case z73k2 => k_asm); (case z73k4 => k_asm); (case z73kC => first | (refine' con_text _ _ _ _ _ _ ?z73a1 ?z73a2 ?z73a3; (case z73a1 => k_mem); (case z73a2 => assumption); (case z73a3 => omega))); (case z73k1 => k_asm); (case z73k3 => k_asm); (case z73k5 => k_asm); (case z73kK => first | exact rfl | assumption); (case z73kd => ktr_room); (case z73ku => ktr_units); intro _ _ _ _ _ _ _ _ _ _; (try dsimp only); (try k_fold); rotate_left; (refine ⟨?_, ?_⟩); (try dsimp only); rotate_right))
        k_with "call ref" => (k_here; k_dflt (refine' ConX.use ?z74kC ?z74k1 ?z74k2 ?z74k3 ?z74k4 ?z74k5 ?z74kK ?z74kd ?z74ku ?_ ?_; (case z74k2 => k_asm); (case z74k4 => k_asm); (case z74kC => first | (refine' con_units _ _ _ _ _ _ ?z74a1 ?z74a2 ?z74a3; (case z74a1 => k_mem); (case z74a2 => assumption); (case z74a3 => (simp only [List.length_append, List.length_take, List.length_drop, List.length_cons, List.length_nil]; omega)))); (case z74k1 => k_asm); (case z74k3 => k_asm); (case z74k5 => k_asm); (case z74kK => first | exact rfl | assumption); (case z74kd => ktr_room); (case z74ku => ktr_units); intro _ _ _ _ _ _ h9 tk9 _ _; (try dsimp only); (try k_fold); rotate_left; intro _ _ _ _ _ _ _ _ _ _ _ _; (try dsimp only); rotate_right))
        k_steps
        unfold WStop
        k_with_none
        k_with "LeaveT" => (k_dflt (refine' leaveT_ ?z66k1 ?z66k2 ?z66k3 ?_; (case z66k1 => k_asm); (case z66k2 => k_asm); (case z66k3 => first | assumption | exact KtsTurn.refl | exact KtsTurn.trans (by assumption) (by assumption)); intro _ _ _ _ _ _ _; (try dsimp only); (try k_fold)))
        k_with "callWith ref" => (k_here; k_dflt (refine' callWith_K ?z67k1 ?z67k2 ?_; (case z67k1 => k_asm); (case z67k2 => k_is); k_whole))
        k_with "exec Assign" => ((with_reducible show wpAny _ _ (exec (Stmt.Assign [Expr.Tuple _ _ _] _ _) _) _ _ _); refine Assign_Tuple ?_)
        k_with "call ref" => (k_here; k_dflt (refine' Con.use ?z69kC ?z69k1 ?z69k2 ?z69k3 ?z69k4 ?z69k5 ?z69kK ?z69kd ?z69ku ?_; (case z69k2 => k_asm); (case z69k4 => k_asm); (case z69kC => first | (refine' con_draw _ _ _ _ _ _ _ _ _ _ _ _ _ ?z69a1 ?z69a2 ?z69a3 ?z69a4 ?z69a5 ?z69a6 ?z69a7; (case z69a1 => k_updF); (case z69a2 => k_mem); (case z69a3 => assumption); (case z69a4 => assumption); (case z69a5 => assumption); (case z69a6 => omega); (case z69a7 => omega))); (case z69k1 => k_asm); (case z69k3 => k_asm); (case z69k5 => k_asm); (case z69kK => first | exact rfl | assumption); (case z69kd => ktr_room); (case z69ku => ktr_units); intro _ _ _ _ _ _ _ _ _ _; (try dsimp only); (try k_fold)))
        k_with "call ref" => (k_here; k_dflt (refine' Con.use ?z70kC ?z70k1 ?z70k2 ?z70k3 ?z70k4 ?z70k5 ?z70kK ?z70kd ?z70ku ?_; (case z70k2 => k_asm); (case z70k4 => k_asm); (case z70kC => first | (refine' con_words _ _ _ _ _ _ ?z70a1 ?z70a2 ?z70a3; (case z70a1 => k_mem); (case z70a2 => assumption); (case z70a3 => omega))); (case z70k1 => k_asm); (case z70k3 => k_asm); (case z70k5 => k_asm); (case z70kK => first | exact rfl | assumption); (case z70kd => ktr_room); (case z70ku => ktr_units); intro _ _ _ _ _ _ _ _ _; (try dsimp only); (try k_fold)))
        k_with "call ref" => (k_here; k_dflt (refine' Con.use ?z71kC ?z71k1 ?z71k2 ?z71k3 ?z71k4 ?z71k5 ?z71kK ?z71kd ?z71ku ?_; (case z71k2 => k_asm); (case z71k4 => k_asm); (case z71kC => first | (refine' con_codes _ _ _ _ _ _ ?z71a1 ?z71a2 ?z71a3 ?z71a4; (case z71a1 => k_mem); (case z71a2 => assumption); (case z71a3 => omega); (case z71a4 => assumption))); (case z71k1 => k_asm); (case z71k3 => k_asm); (case z71k5 => k_asm); (case z71kK => first | exact rfl | assumption); (case z71kd => ktr_room); (case z71ku => ktr_units); intro _ _ _ _ _ _ _ _ _; (try dsimp only); (try k_fold)))
        k_with "compareOp NotEq ref ref" => (k_here; (with_reducible show wpAny _ _ (compareOp CmpOp.NotEq (Value.ref _) (Value.ref _)) _ _ _); k_dflt (refine' ne_given ?z72gN ?z72g1 ?z72g2 ?z72g3 ?z72g4 ?z72g5 ?z72g6 ?z72gu ?_; (case z72gN => k_asm); (case z72g1 => k_mem); (case z72g4 => k_mem); (case z72g2 => k_mem); (case z72g3 => assumption); (case z72g5 => k_mem); (case z72g6 => assumption); (case z72gu => ke_room); k_whole))
        k_with "call ref" => (k_here; k_dflt (refine' ConX.use ?z73kC ?z73k1 ?z73k2 ?z73k3 ?z73k4 ?z73k5 ?z73kK ?z73kd ?z73ku ?_ ?_; (case z73k2 => k_asm); (case z73k4 => k_asm); (case z73kC => first | (refine' con_text _ _ _ _ _ _ ?z73a1 ?z73a2 ?z73a3; (case z73a1 => k_mem); (case z73a2 => assumption); (case z73a3 => omega))); (case z73k1 => k_asm); (case z73k3 => k_asm); (case z73k5 => k_asm); (case z73kK => first | exact rfl | assumption); (case z73kd => ktr_room); (case z73ku => ktr_units); intro _ _ _ _ _ _ _ _ _ _; (try dsimp only); (try k_fold); rotate_left; (refine ⟨?_, ?_⟩); (try dsimp only); rotate_right))
        k_with "call ref" => (k_here; k_dflt (refine' ConX.use ?z74kC ?z74k1 ?z74k2 ?z74k3 ?z74k4 ?z74k5 ?z74kK ?z74kd ?z74ku ?_ ?_; (case z74k2 => k_asm); (case z74k4 => k_asm); (case z74kC => first | (refine' con_units _ _ _ _ _ _ ?z74a1 ?z74a2 ?z74a3; (case z74a1 => k_mem); (case z74a2 => assumption); (case z74a3 => (simp only [List.length_append, List.length_take, List.length_drop, List.length_cons, List.length_nil]; omega)))); (case z74k1 => k_asm); (case z74k3 => k_asm); (case z74k5 => k_asm); (case z74kK => first | exact rfl | assumption); (case z74kd => ktr_room); (case z74ku => ktr_units); intro _ _ _ _ _ _ h9 tk9 _ _; (try dsimp only); (try k_fold); rotate_left; intro _ _ _ _ _ _ _ _ _ _ _ _; (try dsimp only); rotate_right))
        k_with "eval Name" => (k_here; (with_reducible show wpAny _ _ (eval (Expr.Name _ _) (envX _ _ _ _ _ _)) _ _ _); k_dflt (refine' nameX_F ?z75N ?z75c ?z75m ?z75d ?_ ?z75a ?z75b; (case z75a => rfl); (case z75b => rfl); (case z75N => k_asm); (case z75c => rfl); (case z75m => k_mem); (case z75d => k_asm); k_whole))
        k_with "call type:list" => (k_here; (with_reducible show wpAny _ _ (call (Value.type _) [Value.ref _]) _ _ _); k_dflt (refine' list_copyI ?z76F ?z76N ?z76m ?z76i ?z76z ?_; (case z76F => k_asm); (case z76N => k_asm); (case z76m => k_mem); (case z76i => assumption); (case z76z => omega)); intro _ _ _ _ _ _)
        k_dflt (refine' ConT.use (con_heard_text w _ _ _ _ _ _ (.head _) (dd := 60) (uu := 600) (us := un) ?C) ?k1 ?k2 ?k3 ?k4 ?k5 ?kXB ?kTB trivial ?kK ?kd ?ku ?_)
        case k2 => k_asm
        case k4 => k_asm
        case k1 => k_asm
        case k3 => k_asm
        case k5 => k_asm
        case kXB => assumption
        case kTB => assumption
        case kK => rfl
        case kd => ktr_room
        case ku => ktr_units
        case C =>
          (repeat (rename News _ _ _ _ => xx9; clear xx9)); (repeat (rename Fr _ _ _ _ => xx9; clear xx9)); (repeat (rename Frag.In _ _ => xx9; clear xx9)); (repeat (rename StrsAre _ _ => xx9; clear xx9)); (repeat (rename Kp _ _ _ => xx9; clear xx9)); (repeat (rename DueAt _ _ _ _ => xx9; clear xx9)); (repeat (rename (_ < _ ∧ _) => xx9; clear xx9)); (repeat (rename Below _ _ _ _ => xx9; clear xx9)); (repeat (rename Top _ _ _ _ _ _ => xx9; clear xx9)); (repeat (rename CodeHd _ _ _ => xx9; clear xx9)); (repeat (rename KtsTurn _ _ _ => xx9; clear xx9)); (try clear hm1); (try clear hm2); (try clear hm3); (try clear hm4); (try clear hm5); (try clear hm6); (try clear hTPl); (try clear h2l); (try clear hPl); (try clear hP); (try clear hT); (try clear hS); (try clear CH); (try clear CH2); (try clear l1); (try clear hPT); (try clear hne); (try clear hTL); (try clear hTL2); (try clear hsub2); (try clear hfd); (try clear hp9); (try clear hll); (try clear hUn1); (try clear hlen); (try clear hi); (try clear hPT')
          unfold ConX TextP TextPE
          intro loose mean mg mb dp ux gd cn cs a ccd cl outer A₀ base h₀ L m s Q E B F X N T hk hdp hun hret herr
          refine wpAny_call ?_
          k_dflt (refine' kla_code ?k1 ?k2 ?k3 ?k4 ?k5 ?kA ?kF ?kK ?k6 ?k7 ?k8 ?k9 ?kB ?_ ?c2 ?c3 ?c4 ?c5; (case kA => exact rfl); (case kF => exact rfl); (case kK => assumption); (case k1 => k_asm); (case k2 => k_asm); (case k3 => k_asm); (case k4 => k_asm); (case k5 => k_asm); (case k6 => k_mem); (case k7 => exact codeRec_news (by k_asm) (by k_mem) (by assumption) (by assumption)); (case k8 => ktr_room); (case k9 => exact rfl); (case c5 => decide); (case kB => exact locs rfl); (case c2 => exact rfl); (case c3 => exact rfl); (case c4 => exact rfl); k_whole; intro g' L' h' FG' F' N' B' X' T'; (try dsimp only); (try k_fold))
          replace F' : Fr g' L' h' (fun _ => none) := fr_eq F' (by rfl)
          try generalize s.toks + List.length _ = tk0
          have hlen9 := textL_len un un.length
          k_steps
          · rename IntsAre _ (textL un un.length) => hvt9
            rename ∀ p ∈ (_, _) :: (_, _) :: (_, o1) :: _, _ => hlx9
            rename ∀ p ∈ (_, _) :: (_, _) :: (_, _) :: (_, o1) :: _, _ => hly9
            exact hret ‹_› _ _ _ hvt9 (fun p hp => hly9 p (.tail _ hp)) _ _ (by k_asm) (news_sub (a := (_, _) :: (_, _) :: _) (by k_asm) sub_two)
          · refine leave_onX (by k_asm) (by k_asm) (by assumption) (by assumption) fun h' R' U' => ?_
            exact herr.1 _ _ ‹_› ‹_› ‹_› _ _ _ _ _ _ R' FG' U'
          · refine leave_onX (by k_asm) (by k_asm) (by assumption) (by assumption) fun h' R' U' => ?_
            exact herr.2 _ _ _ _ ‹_› ‹_› ‹_› ‹_› _ _ _ _ _ _ R' FG' U'
        refine ⟨?_, ?_, ?_⟩
        · intro hall l vs' n' hvs' hlt' tp t9' htp g2 h2 tk2 K2 B2 X2 T2 F2 N2
          rw [text_codes (us := un) (fun i hi => ok_fault (hall i hi))] at hvs'
          rcases hfd with ⟨hall2, td, Cl, vc, nc, hDu, hCl, hic⟩ | ⟨j, td, ud, hj, hall2, hbad, hDu⟩ | ⟨j, td, ud, vd, Tp, hj, hall2, hin2, hf, hDu, hTp⟩
          · have hlc9 := codes_len un.length un (Nat.le_refl _)
            have hlv1 := IntsAre.length hvs'
            have hlv2 := IntsAre.length hic
            k_steps
            all_goals exact ⟨rfl, _, _, _, _, _, rfl, ⟨K2, B2, X2, T2⟩, (by k_asm), (by first | walk_at "kp" | (intro y hy; simp only [List.mem_cons, not_or, List.not_mem_nil, not_false_eq_true, and_true] at hy; by_cases hq1 : y = Str.ofString "tape"; (· subst hq1; rfl); simp only [setN, setO, hy, hq1, if_false])), news_sub (by k_asm) (fun p hp => .tail _ (.tail _ (.tail _ (.tail _ (hp)))))⟩
          · exact absurd (ok_in (hall j hj)) (by rw [hbad]; decide)
          · exact absurd (ok_fault (hall j hj)) hf
        · intro i u9' hi' hall hin tp t9' htp g2 h2 tk2 K2 B2 X2 T2 F2 N2
          rcases hfd with ⟨hall2, td, Cl, vc, nc, hDu, hCl, hic⟩ | ⟨j, td, ud, hj, hall2, hbad, hDu⟩ | ⟨j, td, ud, vd, Tp, hj, hall2, hin2, hf, hDu, hTp⟩
          · exact absurd (ok_in (hall2 i hi')) (by rw [hin]; decide)
          · obtain rfl := first_eq (p := fun k => okAt un k = true) hall hall2 (fun h => absurd (ok_in h) (by rw [hin]; decide)) (fun h => absurd (ok_in h) (by rw [hbad]; decide))
            k_steps
            all_goals exact ⟨rfl, _, _, _, _, _, rfl, ⟨K2, B2, X2, T2⟩, (by k_asm), (by first | walk_at "kp" | (intro y hy; simp only [List.mem_cons, not_or, List.not_mem_nil, not_false_eq_true, and_true] at hy; by_cases hq1 : y = Str.ofString "tape"; (· subst hq1; rfl); simp only [setN, setO, hy, hq1, if_false])), news_sub (by k_asm) (fun p hp => .tail _ (.tail _ (.tail _ (hp))))⟩
          · obtain rfl := first_eq (p := fun k => okAt un k = true) hall hall2 (fun h => absurd (ok_in h) (by rw [hin]; decide)) (fun h => absurd (ok_fault h) hf)
            exact absurd hin2 (by rw [hin]; decide)
        · intro i u9' v9' T9' hi' hall hin hf' tp t9' htp g2 h2 tk2 K2 B2 X2 T2 F2 N2
          rcases hfd with ⟨hall2, td, Cl, vc, nc, hDu, hCl, hic⟩ | ⟨j, td, ud, hj, hall2, hbad, hDu⟩ | ⟨j, td, ud, vd, Tp, hj, hall2, hin2, hf, hDu, hTp⟩
          · exact absurd (ok_fault (hall2 i hi')) hf'
          · obtain rfl := first_eq (p := fun k => okAt un k = true) hall hall2 (fun h => absurd (ok_fault h) hf') (fun h => absurd (ok_in h) (by rw [hbad]; decide))
            exact absurd hin (by rw [hbad]; decide)
          · obtain rfl := first_eq (p := fun k => okAt un k = true) hall hall2 (fun h => absurd (ok_fault h) hf') (fun h => absurd (ok_fault h) hf)
            rcases fault_cases un i with hfc | hfc | hfc
            · exact absurd hfc hf
            all_goals rw [hfc] at hTp N2
            all_goals k_steps
            all_goals exact ⟨rfl, _, _, _, _, _, rfl, ⟨K2, B2, X2, T2⟩, (by k_asm), (by first | walk_at "kp" | (intro y hy; simp only [List.mem_cons, not_or, List.not_mem_nil, not_false_eq_true, and_true] at hy; by_cases hq1 : y = Str.ofString "tape"; (· subst hq1; rfl); simp only [setN, setO, hy, hq1, if_false])), news_sub (by k_asm) (fun p hp => .tail _ (.tail _ (.tail _ (.tail _ (hp)))))⟩
end Nw
-- PUR2
example : True := by w_top off; k_with_none; trivial
section
namespace Nur
open Nw
theorem menu14 (v : Int) (h0 : 0 ≤ v) (h1 : v < 14) : 0 ≤ ([65, 32, 55296, 56319, 56320, 57343, 55357, 56832, 57344, 65535, 55295, 0, 65533, 65279] : List Int).getD v.toNat 0 ∧ ([65, 32, 55296, 56319, 56320, 57343, 55357, 56832, 57344, 65535, 55295, 0, 65533, 65279] : List Int).getD v.toNat 0 ≤ 65535 := by
  exact int_cases (P := fun v => 0 ≤ ([65, 32, 55296, 56319, 56320, 57343, 55357, 56832, 57344, 65535, 55295, 0, 65533, 65279] : List Int).getD v.toNat 0 ∧ ([65, 32, 55296, 56319, 56320, 57343, 55357, 56832, 57344, 65535, 55295, 0, 65533, 65279] : List Int).getD v.toNat 0 ≤ 65535) 14 (by decide) h0 h1
theorem strs_at {vs : List Value} {ns : List Str} (h : StrsAre vs ns) {i : Nat} (hi : i < vs.length) : ∃ t, vs[i] = .str (ns.getD i Str.empty) t := by
  induction h generalizing i with
  | nil => exact absurd hi (Nat.not_lt_zero _)
  | cons a b _ ih =>
    cases i with
    | zero => exact ⟨_, rfl⟩
    | succ i => obtain ⟨t, e⟩ := ih (i := i) (Nat.lt_of_succ_lt_succ hi); exact ⟨t, by simpa using e⟩
theorem ne_strs {prog : Program} {w : World} {A : Around} {E : Value → Shared → Prop} {s : Shared} {h₀ : Heap} {L l l' : Addr} {news : Led} {vs vs' : List Value} {n n' : Nat} {X : List Str} {Q : Value → Shared → Prop} (N : News h₀ L s.heap news) (h1 : (l, listOf vs.toArray n) ∈ news) (h2 : (l', listOf vs'.toArray n') ∈ news) (i1 : StrsAre vs X) (i2 : StrsAre vs' X) (hu : A.units < cLine) (h : Q (.bool false) s) :
    wpAny (model prog w) A (compareOp .NotEq (.ref l) (.ref l')) Q E s := by
  refine SeqAt.RcNeAt.lists (A := A) (e := fun _ => true) (N.isList h1) (N.isList h2) (by simp [StrsAre.length i1, StrsAre.length i2]) hu (fun j j1 j2 => ?_) prog w E Q ?_
  · obtain ⟨t, e1⟩ := strs_at i1 (i := j) (by simpa using j1)
    obtain ⟨u, e2⟩ := strs_at i2 (i := j) (by simpa using j2)
    have := SeqAt.EqAt.str_str (A := A.in1) (s := s) (X.getD j Str.empty) t (X.getD j Str.empty) u
    rw [beq_self_eq_true] at this
    simpa [e1, e2] using this
  · rw [all_true]; exact h
theorem led_of {h₀ h : Heap} {L : Addr} {news : Led} (_ : News h₀ L h news) : ∃ l, news = l := ⟨_, rfl⟩
theorem strs_item {vs : List Value} {ns : List Str} (h : StrsAre vs ns) {i : Nat} {v : Value} (e : vs[i]? = some v) : i < ns.length ∧ ∃ t, v = .str (ns.getD i Str.empty) t := by
  induction h generalizing i with
  | nil => cases e
  | cons a b _ ih =>
    cases i with
    | zero => obtain rfl := Option.some.inj e; exact ⟨Nat.zero_lt_succ _, _, rfl⟩
    | succ i => obtain ⟨h1, h2⟩ := ih (i := i) (by simpa using e); exact ⟨Nat.succ_lt_succ h1, by simpa using h2⟩
theorem sub_two {a y : Addr × Obj} {c : Led} : ∀ p ∈ a :: c, p ∈ a :: y :: c := fun p hp => by
  simp only [List.mem_cons] at hp ⊢
  rcases hp with h | h
  · exact .inl h
  · exact .inr (.inr h)
noncomputable def StU (g : Heap) (L' : Addr) (xs : List Str) (led : Led) (s : Shared) (f : Flow) (s' : Shared) : Prop := f = .next ∧ ∃ h tk m, s' = { s with heap := h, toks := tk } ∧ Fr g L' h m ∧ Kp xs (fun _ => none) m ∧ News g L' h led
theorem sub_app {x c : Led} : ∀ p ∈ c, p ∈ x ++ c := fun p hp => List.mem_append_right _ hp
inductive StV (G : Heap → Prop) (L' : Addr) (xs : List Str) (cs : List Int) (led : Array Value → Led) (s : Shared) (f : Flow) (s' : Shared) : Prop
  | mk : (f = .next) → ∀ g2 h tk m T Cd vC nC, (s' = { s with heap := h, toks := tk }) → (G g2) → (Fr g2 L' h m) → (Kp xs (fun y => if y = Str.ofString "codes" then some (.ref Cd) else none) m) → (IntsAre vC cs) → (News g2 L' h ((Cd, listOf vC.toArray nC) :: led T)) → ((∀ p ∈ led T, p.1 ≠ Cd)) → StV G L' xs cs led s f s'
theorem sub_cd {x c : Led} : ∀ p ∈ c, p ∈ x ++ c := fun p hp => List.mem_append_right _ hp
theorem shape5 {x1 x2 x3 x4 x5 : Str} {b m : Str → Option Value} (h : Kp [x1, x2, x3, x4, x5] b m) : ∃ c1 c2 c3 c4 c5, m = fun y => if y = x1 then c1 else if y = x2 then c2 else if y = x3 then c3 else if y = x4 then c4 else if y = x5 then c5 else b y := by
  obtain ⟨c, m', h', rfl⟩ := h.more
  obtain ⟨c2, c3, c4, c5, rfl⟩ := h'.shape4
  exact ⟨c, c2, c3, c4, c5, rfl⟩
theorem strs10 {t0 t1 : Tok} {i : Nat} {y : Value} (h : [Value.str (Str.ofString "be") t0, .str (Str.ofString "le") t1, .str (Str.ofString "be") t0, .str (Str.ofString "le") t1, .str (Str.ofString "be") t0, .str (Str.ofString "le") t1, .str (Str.ofString "be") t0, .str (Str.ofString "le") t1, .str (Str.ofString "be") t0, .str (Str.ofString "le") t1][i]? = some y) : (∃ t, y = .str (Str.ofString "be") t) ∨ (∃ t, y = .str (Str.ofString "le") t) := by
  have hm := List.mem_of_getElem? h
  simp only [List.mem_cons, List.not_mem_nil, or_false] at hm
  rcases hm with h | h | h | h | h | h | h | h | h | h <;> first | exact .inl ⟨_, h⟩ | exact .inr ⟨_, h⟩
theorem shape6 {x1 x2 x3 x4 x5 x6 : Str} {b m : Str → Option Value} (h : Kp [x1, x2, x3, x4, x5, x6] b m) : ∃ c1 c2 c3 c4 c5 c6, m = fun y => if y = x1 then c1 else if y = x2 then c2 else if y = x3 then c3 else if y = x4 then c4 else if y = x5 then c5 else if y = x6 then c6 else b y := by
  obtain ⟨c, m', h', rfl⟩ := h.more
  obtain ⟨c2, c3, c4, c5, c6, rfl⟩ := shape5 h'
  exact ⟨c, c2, c3, c4, c5, c6, rfl⟩
theorem unit_t (c : Int) : (List.map (fun c : UInt8 => ((c.toNat : Nat) : Int)) [63] ++ [c.fdiv 256, c.fmod 256]).getD 1 0 * 256 + (List.map (fun c : UInt8 => ((c.toNat : Nat) : Int)) [63] ++ [c.fdiv 256, c.fmod 256]).getD 2 0 = c := by
  have e1 : c.fdiv 256 = c / 256 := Int.fdiv_eq_ediv_of_nonneg _ (by decide)
  have e2 : c.fmod 256 = c % 256 := Int.fmod_eq_emod_of_nonneg _ (by decide)
  show c.fdiv 256 * 256 + c.fmod 256 = c
  omega
theorem unit_f (c : Int) : (List.map (fun c : UInt8 => ((c.toNat : Nat) : Int)) [63] ++ [c.fmod 256, c.fdiv 256]).getD 2 0 * 256 + (List.map (fun c : UInt8 => ((c.toNat : Nat) : Int)) [63] ++ [c.fmod 256, c.fdiv 256]).getD 1 0 = c := by
  have e1 : c.fdiv 256 = c / 256 := Int.fdiv_eq_ediv_of_nonneg _ (by decide)
  have e2 : c.fmod 256 = c % 256 := Int.fmod_eq_emod_of_nonneg _ (by decide)
  show c.fdiv 256 * 256 + c.fmod 256 = c
  omega
theorem ConT.conv {w : World} {f : Addr} {args : List Value} {dd uu : Nat} {n1 n2 : Led} {S : Heap → Prop} {P1 P2 : Kont} (C : ConT w f args dd uu n1 S P1) (hs : ∀ p ∈ n1, p ∈ n2)
    (hP : ∀ k : Value → Led → Prop, (∀ r a b, (∀ p ∈ a, p ∈ b) → k r a → k r b) → P2 k → P1 k) : ConT w f args dd uu n2 S P2 := by
  intro loose mean mg mb dp un gd cn cs a ccd cl outer A₀ base h₀ L m s Q E B F X N T XB TB hS hk hdp hun hret
  refine C loose mean mg mb dp un gd cn cs a ccd cl outer A₀ base h₀ L m s Q E B F X (fun p hp => N p (hs p hp)) T XB TB hS hk hdp hun (hP _ (fun r x y hxy hx h₀' h' tk' K' B' X' T' F' N' => hx h₀' h' tk' K' B' X' T' F' fun p hp => N' p (hxy p hp)) hret)
theorem ur_sub {a news : Led} {x b c : Addr × Obj} : ∀ p ∈ x :: b :: c :: news, p ∈ a ++ (x :: b :: c :: news) := fun p hp => List.mem_append_right _ hp
theorem ur_perm {a news : Led} {b c : Addr × Obj} : ∀ p ∈ b :: c :: (a ++ news), p ∈ a ++ (b :: c :: news) := fun p hp => by
  simp only [List.mem_append, List.mem_cons] at hp ⊢
  rcases hp with h | h | h | h <;> simp [h]
theorem ur_perm2 {a news : Led} {b c : Addr × Obj} : ∀ p ∈ a ++ (b :: c :: news), p ∈ b :: c :: (a ++ news) := fun p hp => by
  simp only [List.mem_append, List.mem_cons] at hp ⊢
  rcases hp with h | h | h | h <;> simp [h]
theorem snoc_all {us : List Int} {c : Int} {p : Int → Prop} (h : ∀ c ∈ us, p c) (hc : p c) : ∀ d ∈ us ++ [c], p d := fun d hd => by
  rcases List.mem_append.mp hd with hd | hd
  · exact h d hd
  · rw [List.mem_singleton.mp hd]; exact hc
theorem mul5 {prog : Program} {w : World} {A : Around} {E : Value → Shared → Prop} {s : Shared} {h₀ : Heap} {L l : Addr} {m : Str → Option Value} {news : Led} {a b : Value} {k : Nat} {u : Tok} {Q : Value → Shared → Prop} (F : Fr h₀ L s.heap m) (N : News h₀ L s.heap news) (hm : (l, listOf #[a, b] k) ∈ news)
    (h : ∀ D h', Fr h₀ L h' m → News h₀ L h' ((D, listOf [a, b, a, b, a, b, a, b, a, b].toArray 0) :: news) → (∀ p ∈ news, p.1 < D) → Q (.ref D) { s with heap := h' }) :
    wpAny (model prog w) A (binaryOp .Mult (.ref l) (.int 5 u)) Q E s :=
  mul_list F N (N _ hm).1 (by decide) (by decide) (by show 2 * 5 ≤ 2 ^ 24; decide) fun h' F' N' => h _ h' F' N' fun p hp => Heap.lt_size (N p hp).1
theorem in_fd {c : Int} (h0 : 0 ≤ c) (h1 : c ≤ 65535) : KBa.In [c.fdiv 256, c.fmod 256] := fun n hn => by
  have e1 : c.fdiv 256 = c / 256 := Int.fdiv_eq_ediv_of_nonneg _ (by decide)
  have e2 : c.fmod 256 = c % 256 := Int.fmod_eq_emod_of_nonneg _ (by decide)
  rw [e1, e2] at hn
  simp only [List.mem_cons, List.not_mem_nil, or_false] at hn
  omega
theorem in_df {c : Int} (h0 : 0 ≤ c) (h1 : c ≤ 65535) : KBa.In [c.fmod 256, c.fdiv 256] := fun n hn => in_fd h0 h1 n (by
  simp only [List.mem_cons, List.not_mem_nil, or_false] at hn ⊢
  exact hn.symm)
theorem oct_t (c : Int) : octL c true = [c.fdiv 256, c.fmod 256] := by
  have e1 : c.fdiv 256 = c / 256 := Int.fdiv_eq_ediv_of_nonneg _ (by decide)
  have e2 : c.fmod 256 = c % 256 := Int.fmod_eq_emod_of_nonneg _ (by decide)
  rw [e1, e2]; rfl
theorem oct_f (c : Int) : octL c false = [c.fmod 256, c.fdiv 256] := by
  have e1 : c.fdiv 256 = c / 256 := Int.fdiv_eq_ediv_of_nonneg _ (by decide)
  have e2 : c.fmod 256 = c % 256 := Int.fmod_eq_emod_of_nonneg _ (by decide)
  rw [e1, e2]; rfl
theorem con_units2 (w : World) (news : Led) (U : Addr) (vs : List Value) (us : List Int) (n : Nat) (ms : List Int) (hU : (U, listOf vs.toArray n) ∈ news) (hi : IntsAre vs us) (hlen : us.length ≤ 100) (e : unitsL us = ms) :
    ConX w 108 [.ref U] 40 300 news (fun k => us.find? (fun c => !isScal c) = none → ∀ l vs' n', IntsAre vs' ms → (∀ p ∈ news, p.1 < l) → k (.ref l) ((l, listOf vs'.toArray n') :: news)) (fun k => ∀ c t, us.find? (fun c => !isScal c) = some c → k 57 (.int c t) news) := e ▸ con_units w news U vs us n hU hi hlen
theorem con_mended2 (w : World) (news : Led) (U : Addr) (vs : List Value) (us : List Int) (n : Nat) (ms : List Int) (hU : (U, listOf vs.toArray n) ∈ news) (hi : IntsAre vs us) (hlen : us.length ≤ 100) (e : mendedL us = ms) :
    Con w 134 [.ref U] 20 200 news (fun k => ∀ l vs' n', IntsAre vs' ms → (∀ p ∈ news, p.1 ≠ l) → k (.ref l) ((l, listOf vs'.toArray n') :: news)) := e ▸ con_mended w news U vs us n hU hi hlen
theorem ne_same {prog : Program} {w : World} {A : Around} {E : Value → Shared → Prop} {s : Shared} {a b : Addr} {xs ys : List Value} {ns : List Int} {Q : Value → Shared → Prop} (ha : s.heap.IsList a xs.toArray) (hb : s.heap.IsList b ys.toArray) (hi : IntsAre xs ns) (hj : IntsAre ys ns) (hu : A.units + 64 < cLine) (h : Q (.bool false) s) :
    wpAny (model prog w) A (compareOp .NotEq (.ref a) (.ref b)) Q E s := ke_ne_ints ha hb hi hj hu (by rw [decide_eq_true rfl]; exact h)
theorem list_copyI {prog : Program} {w : World} {A : Around} {E : Value → Shared → Prop} {s : Shared} {h₀ : Heap} {L : Addr} {m : Str → Option Value} {news : Led} {Q : Value → Shared → Prop} {l : Addr} {vs : List Value} {us : List Int} {k : Nat} (F : Fr h₀ L s.heap m) (N : News h₀ L s.heap news) (hm : (l, listOf vs.toArray k) ∈ news) (hi : IntsAre vs us) (hlen : us.length ≤ 1000)
    (h : ∀ D c h', Fr h₀ L h' m → News h₀ L h' ((D, listOf vs.toArray c) :: news) → (∀ q ∈ news, q.1 < D) → Q (.ref D) { s with heap := h' }) : wpAny (model prog w) A (call (.type "list") [.ref l]) Q E s :=
  list_copyK F N (N.isList hm) h (by rw [List.size_toArray, IntsAre.length hi, sizeLine_eq]; omega)
inductive JUa (L' : Addr) (oc1 : Obj) (oc2 : Obj) (oc3 : Obj) (TP : Addr) (TL : Addr) (news : Led) (i : Nat) (zs : List Value) (n₂ : Led) : Prop
  | mk : ∀ p' t' n' us, (n₂ = (L' + 1 + 1 + 1, oc1) :: (L' + 1 + 1, oc2) :: (L' + 1, oc3) :: (253, tabObj #[]) :: (258, tabObj #[]) :: (TP, listOf [Value.ref TL, .int p' t'].toArray n') :: news) → (0 ≤ p') → (IntsAre zs us) → (us.length = i) → (∀ c ∈ us, 0 ≤ c ∧ c ≤ 65535) → JUa L' oc1 oc2 oc3 TP TL news i zs n₂
theorem con_units_right (w : World) (news : Led) (TP TL : Addr) (t : Tok) (n k : Nat) (vs : List Value) (ns : List Int) (hP1 : ∀ p ∈ news, p.1 ≠ 258) (hP2 : ∀ p ∈ news, p.1 ≠ 253) (hT1 : TP ≠ 258) (hT2 : TP ≠ 253) (hT : ∀ p ∈ news, p.1 ≠ TP) (hTL : (TL, listOf vs.toArray k) ∈ news) (hi : IntsAre vs ns) (hlen : ns.length ≤ 60) :
    ConT w 256 [.ref TP] 400 4000 ((253, tabObj #[]) :: (258, tabObj #[]) :: (TP, listOf [Value.ref TL, .int 0 t].toArray n) :: news) (fun b => CodeHd b 262 258 ∧ CodeHd b 255 253) (fun k => ∀ T1 T2 p' t' n', 0 ≤ p' → k (.bool true) ((253, tabObj T2) :: (258, tabObj T1) :: (TP, listOf [Value.ref TL, .int p' t'].toArray n') :: news)) := by
  k_with_none
  k_with "LeaveT" => (k_dflt (refine' leaveT_ ?z77k1 ?z77k2 ?z77k3 ?_; (case z77k1 => k_asm); (case z77k2 => k_asm); (case z77k3 => first | assumption | exact KtsTurn.refl | exact KtsTurn.trans (by assumption) (by assumption)); intro _ _ _ _ _ _ _; (try dsimp only); (try k_fold)))
  k_with "callWith ref" => (k_here; k_dflt (refine' callWith_K ?z78k1 ?z78k2 ?_; (case z78k1 => k_asm); (case z78k2 => k_is); k_whole))
  k_with "call ref" => (k_here; k_dflt (refine' Con.use ?z79kC ?z79k1 ?z79k2 ?z79k3 ?z79k4 ?z79k5 ?z79kK ?z79kd ?z79ku ?_; (case z79k2 => k_asm); (case z79k4 => k_asm); (case z79kC => first | (refine' con_draw _ _ _ _ _ _ _ _ _ _ _ _ _ ?z79a1 ?z79a2 ?z79a3 ?z79a4 ?z79a5 ?z79a6 ?z79a7; (case z79a1 => k_updF); (case z79a2 => k_mem); (case z79a3 => assumption); (case z79a4 => assumption); (case z79a5 => assumption); (case z79a6 => omega); (case z79a7 => omega))); (case z79k1 => k_asm); (case z79k3 => k_asm); (case z79k5 => k_asm); (case z79kK => first | exact rfl | assumption); (case z79kd => ktr_room); (case z79ku => ktr_units); intro _ _ _ _ _ _ _ _ _ _; (try dsimp only); (try k_fold)))
  k_with "call ref" => (k_here; k_dflt (refine' Con.use ?z80kC ?z80k1 ?z80k2 ?z80k3 ?z80k4 ?z80k5 ?z80kK ?z80kd ?z80ku ?_; (case z80k2 => k_asm); (case z80k4 => k_asm); (case z80kC => first | (refine' con_fault _ _ _ _ _ _ _ _ ?z80a1 ?z80a2 ?z80a3 ?z80a4; (case z80a1 => k_mem); (case z80a2 => assumption); (case z80a3 => omega); (case z80a4 => omega))); (case z80k1 => k_asm); (case z80k3 => k_asm); (case z80k5 => k_asm); (case z80kK => first | exact rfl | assumption); (case z80kd => ktr_room); (case z80ku => ktr_units); intro _ _ _ _ _; (try dsimp only); (try k_fold)))
  k_with "call ref" => (k_here; k_dflt (refine' Con.use ?z81kC ?z81k1 ?z81k2 ?z81k3 ?z81k4 ?z81k5 ?z81kK ?z81kd ?z81ku ?_; (case z81k2 => k_asm); (case z81k4 => k_asm); (case z81kC => first | (refine' con_words _ _ _ _ _ _ ?z81a1 ?z81a2 ?z81a3; (case z81a1 => k_mem); (case z81a2 => assumption); (case z81a3 => omega))); (case z81k1 => k_asm); (case z81k3 => k_asm); (case z81k5 => k_asm); (case z81kK => first | exact rfl | assumption); (case z81kd => ktr_room); (case z81ku => ktr_units); intro _ _ _ _ _ _ _ _ _; (try dsimp only); (try k_fold)))
  k_with "binaryOp Mult ref int" => (k_here; k_dflt (refine' mul5 ?z82F ?z82N ?z82m ?_; (case z82F => k_asm); (case z82N => k_asm); (case z82m => k_mem)); intro _ _ _ _ _)
  k_with "call type:bytes" => (k_here; (with_reducible show wpAny _ _ (call (Value.type "bytes") [Value.ref _]) _ _ _); k_dflt (refine' KBa.make_K ?z83kbaF ?z83kbaN ?z83kbah ?z83kbal ?z83kbai ?z83kbar ?z83kban ?_; (case z83kbaF => k_asm); (case z83kbaN => k_asm); (case z83kbah => rfl); (case z83kbal => exact News.isList (by k_asm) (by k_mem)); (case z83kbai => first | assumption | exact .cons _ _ (.cons _ _ .nil)); (case z83kbar => assumption); (case z83kban => first | (show (2 : Nat) ≤ _; decide) | kba_size)); intro _ _ _ _ _ kbaIn; (have kbaS := KBa.sum_in kbaIn))
  k_with "call ref" => (k_here; k_dflt (refine' Con.use ?z84kC ?z84k1 ?z84k2 ?z84k3 ?z84k4 ?z84k5 ?z84kK ?z84kd ?z84ku ?_; (case z84k2 => k_asm); (case z84k4 => k_asm); (case z84kC => first | (refine' con_codes _ _ _ _ _ _ ?z84a1 ?z84a2 ?z84a3 ?z84a4; (case z84a1 => k_mem); (case z84a2 => assumption); (case z84a3 => omega); (case z84a4 => assumption))); (case z84k1 => k_asm); (case z84k3 => k_asm); (case z84k5 => k_asm); (case z84kK => first | exact rfl | assumption); (case z84kd => ktr_room); (case z84ku => ktr_units); intro _ _ _ _ _ _ _ _ _; (try dsimp only); (try k_fold)))
  k_with "call ref" => (k_here; k_dflt (refine' Con.use ?z85kC ?z85k1 ?z85k2 ?z85k3 ?z85k4 ?z85k5 ?z85kK ?z85kd ?z85ku ?_; (case z85k2 => k_asm); (case z85k4 => k_asm); (case z85kC => first | (refine' con_joined _ _ _ _ _ _ ?z85a1 ?z85a2 ?z85a3 ?z85a4; (case z85a1 => omega); (case z85a2 => omega); (case z85a3 => omega); (case z85a4 => omega))); (case z85k1 => k_asm); (case z85k3 => k_asm); (case z85k5 => k_asm); (case z85kK => first | exact rfl | assumption); (case z85kd => ktr_room); (case z85ku => ktr_units); intro _ _ _ _ _; (try dsimp only); (try k_fold)))
  k_with "call ref" => (k_here; k_dflt (refine' Con.use ?z86kC ?z86k1 ?z86k2 ?z86k3 ?z86k4 ?z86k5 ?z86kK ?z86kd ?z86ku ?_; (case z86k2 => k_asm); (case z86k4 => k_asm); (case z86kC => first | (refine' con_octets_be _ _ _ _ _ ?z86a1 ?z86a2; (case z86a1 => omega); (case z86a2 => omega))); (case z86k1 => k_asm); (case z86k3 => k_asm); (case z86k5 => k_asm); (case z86kK => first | exact rfl | assumption); (case z86kd => ktr_room); (case z86ku => ktr_units); intro _ _ _ _ _ _ _ _ _; (try dsimp only); (try k_fold)))
  k_with "call ref" => (k_here; k_dflt (refine' Con.use ?z87kC ?z87k1 ?z87k2 ?z87k3 ?z87k4 ?z87k5 ?z87kK ?z87kd ?z87ku ?_; (case z87k2 => k_asm); (case z87k4 => k_asm); (case z87kC => first | (refine' con_octets_le _ _ _ _ _ ?z87a1 ?z87a2; (case z87a1 => omega); (case z87a2 => omega))); (case z87k1 => k_asm); (case z87k3 => k_asm); (case z87k5 => k_asm); (case z87kK => first | exact rfl | assumption); (case z87kd => ktr_room); (case z87ku => ktr_units); intro _ _ _ _ _ _ _ _ _; (try dsimp only); (try k_fold)))
  k_with "call ref" => (k_here; k_dflt (refine' Con.use ?z88kC ?z88k1 ?z88k2 ?z88k3 ?z88k4 ?z88k5 ?z88kK ?z88kd ?z88ku ?_; (case z88k2 => k_asm); (case z88k4 => k_asm); (case z88kC => first | (refine' con_unit_be _ _ _ _ _ _ _ ?z88a1 ?z88a2; (case z88a1 => assumption); (case z88a2 => first | assumption | rfl))); (case z88k1 => k_asm); (case z88k3 => k_asm); (case z88k5 => k_asm); (case z88kK => first | exact rfl | assumption); (case z88kd => ktr_room); (case z88ku => ktr_units); intro _ _ _ _ _; (try dsimp only); (try k_fold)))
  k_with "call ref" => (k_here; k_dflt (refine' Con.use ?z89kC ?z89k1 ?z89k2 ?z89k3 ?z89k4 ?z89k5 ?z89kK ?z89kd ?z89ku ?_; (case z89k2 => k_asm); (case z89k4 => k_asm); (case z89kC => first | (refine' con_unit_le _ _ _ _ _ _ _ ?z89a1 ?z89a2; (case z89a1 => assumption); (case z89a2 => first | assumption | rfl))); (case z89k1 => k_asm); (case z89k3 => k_asm); (case z89k5 => k_asm); (case z89kK => first | exact rfl | assumption); (case z89kd => ktr_room); (case z89ku => ktr_units); intro _ _ _ _ _; (try dsimp only); (try k_fold)))
  k_with "call ref" => (k_here; k_dflt (refine' Con.use ?z90kC ?z90k1 ?z90k2 ?z90k3 ?z90k4 ?z90k5 ?z90kK ?z90kd ?z90ku ?_; (case z90k2 => k_asm); (case z90k4 => k_asm); (case z90kC => first | (refine' con_mended2 _ _ _ _ _ _ _ ?z90a1 ?z90a2 ?z90a3 ?z90a4; (case z90a1 => k_mem); (case z90a2 => assumption); (case z90a3 => omega); (case z90a4 => first | exact mended_twice _ | rfl))); (case z90k1 => k_asm); (case z90k3 => k_asm); (case z90k5 => k_asm); (case z90kK => first | exact rfl | assumption); (case z90kd => ktr_room); (case z90ku => ktr_units); intro _ _ _ _ _ _ _ _ _; (try dsimp only); (try k_fold)))
  k_with "compareOp NotEq ref ref" => (k_here; (with_reducible show wpAny _ _ (compareOp CmpOp.NotEq (Value.ref _) (Value.ref _)) _ _ _); k_dflt (refine ne_same (by is_list) (by is_list) (by assumption) (by assumption) (by ke_room) ?_))
  k_with "compareOp Eq bytes bytes" => (k_dflt (refine eq_bytesK (by kba_ints) (by kba_ints) ?_))
  k_with "compareOp NotEq bytes bytes" => (k_dflt (refine ne_bytesK (by kba_ints) (by kba_ints) ?_))
  k_with "compareOp NotEq ref ref" => (k_here; (with_reducible show wpAny _ _ (compareOp CmpOp.NotEq (Value.ref _) (Value.ref _)) _ _ _); k_dflt (refine' ne_given ?z94gN ?z94g1 ?z94g2 ?z94g3 ?z94g4 ?z94g5 ?z94g6 ?z94gu ?_; (case z94gN => k_asm); (case z94g1 => k_mem); (case z94g4 => k_mem); (case z94g2 => k_mem); (case z94g3 => assumption); (case z94g5 => k_mem); (case z94g6 => assumption); (case z94gu => ke_room); k_whole))
  k_with "call ref" => (k_here; k_dflt (refine' ConX.use ?z95kC ?z95k1 ?z95k2 ?z95k3 ?z95k4 ?z95k5 ?z95kK ?z95kd ?z95ku ?_ ?_; (case z95k2 => k_asm); (case z95k4 => k_asm); (case z95kC => first | (refine' con_text _ _ _ _ _ _ ?z95a1 ?z95a2 ?z95a3; (case z95a1 => k_mem); (case z95a2 => assumption); (case z95a3 => omega))); (case z95k1 => k_asm); (case z95k3 => k_asm); (case z95k5 => k_asm); (case z95kK => first | exact rfl | assumption); (case z95kd => ktr_room); (case z95ku => ktr_units); intro _ _ _ _ _ _ _ _ _ _; (try dsimp only); (try k_fold); rotate_left; (refine ⟨?_, ?_⟩); (try dsimp only); rotate_right))
  k_with "call ref" => (k_here; k_dflt (refine' ConX.use ?z96kC ?z96k1 ?z96k2 ?z96k3 ?z96k4 ?z96k5 ?z96kK ?z96kd ?z96ku ?_ ?_; (case z96k2 => k_asm); (case z96k4 => k_asm); (case z96kC => first | (refine' con_units2 _ _ _ _ _ _ _ ?z96a1 ?z96a2 ?z96a3 ?z96a4; (case z96a1 => k_mem); (case z96a2 => assumption); (case z96a3 => omega); (case z96a4 => assumption))); (case z96k1 => k_asm); (case z96k3 => k_asm); (case z96k5 => k_asm); (case z96kK => first | exact rfl | assumption); (case z96kd => ktr_room); (case z96ku => ktr_units); intro _ _ _ _ _ _ h9 tk9 _ _; (try dsimp only); (try k_fold); rotate_left; intro _ _ _ _ _ _ _ _ _ _ _ _; (try dsimp only); rotate_right))
  k_with "call type:list" => (k_here; (with_reducible show wpAny _ _ (call (Value.type _) [Value.ref _]) _ _ _); k_dflt (refine' list_copyI ?z97F ?z97N ?z97m ?z97i ?z97z ?_; (case z97F => k_asm); (case z97N => k_asm); (case z97m => k_mem); (case z97i => assumption); (case z97z => omega)); intro _ _ _ _ _ _)
  k_with "eval Name" => (k_here; (with_reducible show wpAny _ _ (eval (Expr.Name _ _) (envX _ _ _ _ _ _)) _ _ _); k_dflt (refine' nameX_F ?z98N ?z98c ?z98m ?z98d ?_ ?z98a ?z98b; (case z98a => rfl); (case z98b => rfl); (case z98N => k_asm); (case z98c => rfl); (case z98m => k_mem); (case z98d => k_asm); k_whole))
  k_with_none
  k_with "LeaveT" => (k_dflt (refine' leaveT_ ?z77k1 ?z77k2 ?z77k3 ?_; (case z77k1 => k_asm); (case z77k2 => k_asm); (case z77k3 => first | assumption | exact KtsTurn.refl | exact KtsTurn.trans (by assumption) (by assumption)); intro _ _ _ _ _ _ _; (try dsimp only); (try k_fold)))
  k_with "callWith ref" => (k_here; k_dflt (refine' callWith_K ?z78k1 ?z78k2 ?_; (case z78k1 => k_asm); (case z78k2 => k_is); k_whole))
  k_with "call ref" => (k_here; k_dflt (refine' Con.use ?z79kC ?z79k1 ?z79k2 ?z79k3 ?z79k4 ?z79k5 ?z79kK ?z79kd ?z79ku ?_; (case z79k2 => k_asm); (case z79k4 => k_asm); (case z79kC => first | (refine' con_draw _ _ _ _ _ _ _ _ _ _ _ _ _ ?z79a1 ?z79a2 ?z79a3 ?z79a4 ?z79a5 ?z79a6 ?z79a7; (case z79a1 => k_updF); (case z79a2 => k_mem); (case z79a3 => assumption); (case z79a4 => assumption); (case z79a5 => assumption); (case z79a6 => omega); (case z79a7 => omega))); (case z79k1 => k_asm); (case z79k3 => k_asm); (case z79k5 => k_asm); (case z79kK => first | exact rfl | assumption); (case z79kd => ktr_room); (case z79ku => ktr_units); intro _ _ _ _ _ _ _ _ _ _; (try dsimp only); (try k_fold)))
  k_with "call ref" => (k_here; k_dflt (refine' Con.use ?z80kC ?z80k1 ?z80k2 ?z80k3 ?z80k4 ?z80k5 ?z80kK ?z80kd ?z80ku ?_; (case z80k2 => k_asm); (case z80k4 => k_asm); (case z80kC => first | (refine' con_fault _ _ _ _ _ _ _ _ ?z80a1 ?z80a2 ?z80a3 ?z80a4; (case z80a1 => k_mem); (case z80a2 => assumption); (case z80a3 => omega); (case z80a4 => omega))); (case z80k1 => k_asm); (case z80k3 => k_asm); (case z80k5 => k_asm); (case z80kK => first | exact rfl | assumption); (case z80kd => ktr_room); (case z80ku => ktr_units); intro _ _ _ _ _; (try dsimp only); (try k_fold)))
  k_with "call ref" => (k_here; k_dflt (refine' Con.use ?z81kC ?z81k1 ?z81k2 ?z81k3 ?z81k4 ?z81k5 ?z81kK ?z81kd ?z81ku ?_; (case z81k2 => k_asm); (case z81k4 => k_asm); (case z81kC => first | (refine' con_words _ _ _ _ _ _ ?z81a1 ?z81a2 ?z81a3; (case z81a1 => k_mem); (case z81a2 => assumption); (case z81a3 => omega))); (case z81k1 => k_asm); (case z81k3 => k_asm); (case z81k5 => k_asm); (case z81kK => first | exact rfl | assumption); (case z81kd => ktr_room); (case z81ku => ktr_units); intro _ _ _ _ _ _ _ _ _; (try dsimp only); (try k_fold)))
  k_with "binaryOp Mult ref int" => (k_here; k_dflt (refine' mul5 ?z82F ?z82N ?z82m ?_; (case z82F => k_asm); (case z82N => k_asm); (case z82m => k_mem)); intro _ _ _ _ _)
  k_with "call type:bytes" => (k_here; (with_reducible show wpAny _ _ (call (Value.type "bytes") [Value.ref _]) _ _ _); k_dflt (refine' KBa.make_K ?z83kbaF ?z83kbaN ?z83kbah ?z83kbal ?z83kbai ?z83kbar ?z83kban ?_; (case z83kbaF => k_asm); (case z83kbaN => k_asm); (case z83kbah => rfl); (case z83kbal => exact News.isList (by k_asm) (by k_mem)); (case z83kbai => first | assumption | exact .cons _ _ (.cons _ _ .nil)); (case z83kbar => assumption); (case z83kban => first | (show (2 : Nat) ≤ _; decide) | kba_size)); intro _ _ _ _ _ kbaIn; (have kbaS := KBa.sum_in kbaIn))
  k_with "call ref" => (k_here; k_dflt (refine' Con.use ?z84kC ?z84k1 ?z84k2 ?z84k3 ?z84k4 ?z84k5 ?z84kK ?z84kd ?z84ku ?_; (case z84k2 => k_asm); (case z84k4 => k_asm); (case z84kC => first | (refine' con_codes _ _ _ _ _ _ ?z84a1 ?z84a2 ?z84a3 ?z84a4; (case z84a1 => k_mem); (case z84a2 => assumption); (case z84a3 => omega); (case z84a4 => assumption))); (case z84k1 => k_asm); (case z84k3 => k_asm); (case z84k5 => k_asm); (case z84kK => first | exact rfl | assumption); (case z84kd => ktr_room); (case z84ku => ktr_units); intro _ _ _ _ _ _ _ _ _; (try dsimp only); (try k_fold)))
  k_with "call ref" => (k_here; k_dflt (refine' Con.use ?z85kC ?z85k1 ?z85k2 ?z85k3 ?z85k4 ?z85k5 ?z85kK ?z85kd ?z85ku ?_; (case z85k2 => k_asm); (case z85k4 => k_asm); (case z85kC => first | (refine' con_joined _ _ _ _ _ _ ?z85a1 ?z85a2 ?z85a3 ?z85a4; (case z85a1 => omega); (case z85a2 => omega); (case z85a3 => omega); (case z85a4 => omega))); (case z85k1 => k_asm); (case z85k3 => k_asm); (case z85k5 => k_asm); (case z85kK => first | exact rfl | assumption); (case z85kd => ktr_room); (case z85ku => ktr_units); intro _ _ _ _ _; (try dsimp only); (try k_fold)))
  k_with "call ref" => (k_here; k_dflt (refine' Con.use ?z86kC ?z86k1 ?z86k2 ?z86k3 ?z86k4 ?z86k5 ?z86kK ?z86kd ?z86ku ?_; (case z86k2 => k_asm); (case z86k4 => k_asm); (case z86kC => first | (refine' con_octets_be _ _ _ _ _ ?z86a1 ?z86a2; (case z86a1 => omega); (case z86a2 => omega))); (case z86k1 => k_asm); (case z86k3 => k_asm); (case z86k5 => k_asm); (case z86kK => first | exact rfl | assumption); (case z86kd => ktr_room); (case z86ku => ktr_units); intro _ _ _ _ _ _ _ _ _; (try dsimp only); (try k_fold)))
  k_with "call ref" => (k_here; k_dflt (refine' Con.use ?z87kC ?z87k1 ?z87k2 ?z87k3 ?z87k4 ?z87k5 ?z87kK ?z87kd ?z87ku ?_; (case z87k2 => k_asm); (case z87k4 => k_asm); (case z87kC => first | (refine' con_octets_le _ _ _ _ _ ?z87a1 ?z87a2; (case z87a1 => omega); (case z87a2 => omega))); (case z87k1 => k_asm); (case z87k3 => k_asm); (case z87k5 => k_asm); (case z87kK => first | exact rfl | assumption); (case z87kd => ktr_room); (case z87ku => ktr_units); intro _ _ _ _ _ _ _ _ _; (try dsimp only); (try k_fold)))
  k_with "call ref" => (k_here; k_dflt (refine' Con.use ?z88kC ?z88k1 ?z88k2 ?z88k3 ?z88k4 ?z88k5 ?z88kK ?z88kd ?z88ku ?_; (case z88k2 => k_asm); (case z88k4 => k_asm); (case z88kC => first | (refine' con_unit_be _ _ _ _ _ _ _ ?z88a1 ?z88a2; (case z88a1 => assumption); (case z88a2 => first | assumption | rfl))); (case z88k1 => k_asm); (case z88k3 => k_asm); (case z88k5 => k_asm); (case z88kK => first | exact rfl | assumption); (case z88kd => ktr_room); (case z88ku => ktr_units); intro _ _ _ _ _; (try dsimp only); (try k_fold)))
  k_with "call ref" => (k_here; k_dflt (refine' Con.use ?z89kC ?z89k1 ?z89k2 ?z89k3 ?z89k4 ?z89k5 ?z89kK ?z89kd ?z89ku ?_; (case z89k2 => k_asm); (case z89k4 => k_asm); (case z89kC => first | (refine' con_unit_le _ _ _ _ _ _ _ ?z89a1 ?z89a2; (case z89a1 => assumption); (case z89a2 => first | assumption | rfl))); (case z89k1 => k_asm); (case z89k3 => k_asm); (case z89k5 => k_asm); (case z89kK => first | exact rfl | assumption); (case z89kd => ktr_room); (case z89ku => ktr_units); intro _ _ _ _ _; (try dsimp only); (try k_fold)))
  k_with "call ref" => (k_here; k_dflt (refine' Con.use ?z90kC ?z90k1 ?z90k2 ?z90k3 ?z90k4 ?z90k5 ?z90kK ?z90kd ?z90ku ?_; (case z90k2 => k_asm); (case z90k4 => k_asm); (case z90kC => first | (refine' con_mended2 _ _ _ _ _ _ _ ?z90a1 ?z90a2 ?z90a3 ?z90a4; (case z90a1 => k_mem); (case z90a2 => assumption); (case z90a3 => omega); (case z90a4 => first | exact mended_twice _ | rfl))); (case z90k1 => k_asm); (case z90k3 => k_asm); (case z90k5 => k_asm); (case z90kK => first | exact rfl | assumption); (case z90kd => ktr_room); (case z90ku => ktr_units); intro _ _ _ _ _ _ _ _ _; (try dsimp only); (try k_fold)))
  k_with "compareOp NotEq ref ref" => (k_here; (with_reducible show wpAny _ _ (compareOp CmpOp.NotEq (Value.ref _) (Value.ref _)) _ _ _); k_dflt (refine ne_same (by is_list) (by is_list) (by assumption) (by assumption) (by ke_room) ?_))
  k_with "compareOp Eq bytes bytes" => (k_dflt (refine eq_bytesK (by kba_ints) (by kba_ints) ?_))
  k_with "compareOp NotEq bytes bytes" => (k_dflt (refine ne_bytesK (by kba_ints) (by kba_ints) ?_))
  k_with "compareOp NotEq ref ref" => (k_here; (with_reducible show wpAny _ _ (compareOp CmpOp.NotEq (Value.ref _) (Value.ref _)) _ _ _); k_dflt (refine' ne_given ?z94gN ?z94g1 ?z94g2 ?z94g3 ?z94g4 ?z94g5 ?z94g6 ?z94gu ?_; (case z94gN => k_asm); (case z94g1 => k_mem); (case z94g4 => k_mem); (case z94g2 => k_mem); (case z94g3 => assumption); (case z94g5 => k_mem); (case z94g6 => assumption); (case z94gu => ke_room); k_whole))
  k_with "call ref" => (k_here; k_dflt (refine' ConX.use ?z95kC ?z95k1 ?z95k2 ?z95k3 ?z95k4 ?z95k5 ?z95kK ?z95kd ?z95ku ?_ ?_; (case z95k2 => k_asm); (case z95k4 => k_asm); (case z95kC => first | (refine' con_text _ _ _ _ _ _ ?z95a1 ?z95a2 ?z95a3; (case z95a1 => k_mem); (case z95a2 => assumption); (case z95a3 => omega))); (case z95k1 => k_asm); (case z95k3 => k_asm); (case z95k5 => k_asm); (case z95kK => first | exact rfl | assumption); (case z95kd => ktr_room); (case z95ku => ktr_units); intro _ _ _ _ _ _ _ _ _ _; (try dsimp only); (try k_fold); rotate_left; (refine ⟨?_, ?_⟩); (try dsimp only); rotate_right))
  k_with "call ref" => (k_here; k_dflt (refine' ConX.use ?z96kC ?z96k1 ?z96k2 ?z96k3 ?z96k4 ?z96k5 ?z96kK ?z96kd ?z96ku ?_ ?_; (case z96k2 => k_asm); (case z96k4 => k_asm); (case z96kC => first | (refine' con_units2 _ _ _ _ _ _ _ ?z96a1 ?z96a2 ?z96a3 ?z96a4; (case z96a1 => k_mem); (case z96a2 => assumption); (case z96a3 => omega); (case z96a4 => assumption))); (case z96k1 => k_asm); (case z96k3 => k_asm); (case z96k5 => k_asm); (case z96kK => first | exact rfl | assumption); (case z96kd => ktr_room); (case z96ku => ktr_units); intro _ _ _ _ _ _ h9 tk9 _ _; (try dsimp only); (try k_fold); rotate_left; intro _ _ _ _ _ _ _ _ _ _ _ _; (try dsimp only); rotate_right))
  k_with "call type:list" => (k_here; (with_reducible show wpAny _ _ (call (Value.type _) [Value.ref _]) _ _ _); k_dflt (refine' list_copyI ?z97F ?z97N ?z97m ?z97i ?z97z ?_; (case z97F => k_asm); (case z97N => k_asm); (case z97m => k_mem); (case z97i => assumption); (case z97z => omega)); intro _ _ _ _ _ _)
  k_with "eval Name" => (k_here; (with_reducible show wpAny _ _ (eval (Expr.Name _ _) (envX _ _ _ _ _ _)) _ _ _); k_dflt (refine' nameX_F ?z98N ?z98c ?z98m ?z98d ?_ ?z98a ?z98b; (case z98a => rfl); (case z98b => rfl); (case z98N => k_asm); (case z98c => rfl); (case z98m => k_mem); (case z98d => k_asm); k_whole))
  unfold ConT
  intro loose mean mg mb dp ux gd cn cs a ccd cl outer A₀ base h₀ L m s Q E B F X N T XB TB hS hk hdp hun hret
  refine wpAny_call ?_
  k_dflt (refine' code_defCT ?k1 ?k2 ?k3 ?k4 ?k5 ?kXB ?kTB ?kA ?kF ?kK ?k6 ?k7 ?k8 ?k9 ?kB ?kD ?_ ?c2 ?c3 ?c4; (case kXB => assumption); (case kTB => assumption); (case kA => exact rfl); (case kF => exact rfl); (case kK => assumption); (case k1 => k_asm); (case k2 => k_asm); (case k3 => k_asm); (case k4 => k_asm); (case k5 => k_asm); (case k6 => k_is); (case k7 => k_is); (case k8 => ktr_room); (case k9 => first | exact BindsTo.of_eq rfl | exact binds_K (by k_in) rfl (by k_is) rfl rfl rfl); (case kB => exact rfl); (case kD => decide +kernel); (case c2 => exact rfl); (case c3 => exact rfl); (case c4 => exact rfl); k_whole; intro g' L' h' tk' cells' FG' F' N' Y' B' X' T' l1;  (try simp only [List.cons_append, List.nil_append] at N'); skip)
  refine enter_nmX ?_
  intro q0 hq0
  refine nameAEX ?_
  intro Av Ev Xv
  obtain ⟨oc1, oc2, oc3, hE, dc1, dc2, dc3⟩ := CellsAre.three Y'
  subst hE
  clear Y'
  replace dc1 : oc1.data = .cell (none) := dc1.trans (by rfl)
  replace dc2 : oc2.data = .cell (none) := dc2.trans (by rfl)
  replace dc3 : oc3.data = .cell (some (.ref TP)) := dc3.trans (by rfl)
  simp only [List.cons_append, List.nil_append] at N'
  replace F' : Fr g' L' h' (fun _ => none) := F'
  try generalize s.toks + List.length _ = tk0
  (try dsimp only)
  (try k_fold)
  have hne : TL ≠ TP := hT _ hTL
  have hTPl : @LT.lt Nat instLTNat TP L' := l1 _ (.tail _ (.tail _ (.head _)))
  have h2l : @LT.lt Nat instLTNat 258 L' := l1 _ (.tail _ (.head _))
  have h3l : @LT.lt Nat instLTNat 253 L' := l1 _ (.head _)
  have hPl : ∀ p ∈ news, p.1 < L' := fun p hp => l1 p (.tail _ (.tail _ (.tail _ hp)))
  have hT1' : @Ne Nat TP 258 := hT1
  have hT2' : @Ne Nat TP 253 := hT2
  k_with "eval ListComp" => (k_dflt (refine ListComp_J (by k_asm) (by with_unfolding_all rfl) (by decide) (by rfl) (by decide) ?_))
  k_steps
  k_dflt (refine comp_range (by rfl) (by k_asm) (by k_asm) (by assumption) (small_one (by omega) (by omega) (by omega) (by omega)) (rangeSize_nat _ _) (by rw [sizeLine_eq]; omega) (by rfl) (by rfl) (JUa L' oc1 oc2 oc3 TP TL news) ⟨_, _, _, [], rfl, by omega, .nil, rfl, (fun _ h => nomatch h)⟩ ?turn1 ?fin1)
  case turn1 =>
    intro g8 i2 zs n₂ own2 C2 D2 oC2 m2 h8 tk8 E8 hi8 hz2 hJ2 hoff2 hw2 hown2 hoC2 F8 N8
    obtain ⟨p2, t2, n2, us, rfl, hp2, hzs, hul, hus⟩ := hJ2
    (try dsimp only)
    have hTw2 := off_not hoff2 (.tail _ (.tail _ (.tail _ (.tail _ (.tail _ (.head _))))))
    have hDT2 := off_ne hoff2 (b := D2) (.tail _ (.tail _ (.tail _ (.tail _ (.tail _ (.head _)))))) (.head _)
    have hCT2 := off_ne hoff2 (b := C2) (.tail _ (.tail _ (.tail _ (.tail _ (.tail _ (.head _)))))) (.tail _ (.head _))
    have hTr2 := all_app hT (own_ne hown2 (fun h => hTw2 (.tail _ (.tail _ h))))
    have hTLr2 : (TL, listOf vs.toArray k) ∈ news ++ own2 := List.mem_append_left _ hTL
    simp only [List.cons_append] at N8
    obtain ⟨rest2, hrest2⟩ : ∃ r, r = news ++ own2 := ⟨_, rfl⟩
    rw [← hrest2] at N8 hTr2 hTLr2
    refine tests_ce ?_
    intro qc hqc
    (try dsimp only)
    k_steps
    subst hrest2
    refine CE.go hqc (n' := (L' + 1 + 1 + 1, oc1) :: (L' + 1 + 1, oc2) :: (L' + 1, oc3) :: (253, tabObj #[]) :: (258, tabObj #[]) :: (TP, _) :: news) (by k_asm) (ce_back (by k_asm)) (off_same hoff2 (by rfl)) ⟨_, _, _, _, rfl, (by omega), ints_snoc hzs _ _, (by rw [List.length_append, hul]; rfl), snoc_all hus (menu14 _ (by assumption) (by assumption))⟩
  case fin1 =>
    rintro g8 tk8 zs n₂ ⟨p2, t2, n2, us, rfl, hp2, hzs, hul, hus⟩ D2 h8 tk8 F8 N8 hD2
    have hDT2 : @Ne Nat TP D2 := hD2 _ (.tail _ (.tail _ (.tail _ (.tail _ (.tail _ (.head _))))))
    have hcD1 : @Ne Nat (L' + 1 + 1 + 1) D2 := hD2 _ (.head _)
    have hcD2 : @Ne Nat (L' + 1 + 1) D2 := hD2 _ (.tail _ (.head _))
    have hcD3 : @Ne Nat (L' + 1) D2 := hD2 _ (.tail _ (.tail _ (.head _)))
    have hcD4 : @Ne Nat 253 D2 := hD2 _ (.tail _ (.tail _ (.tail _ (.head _))))
    have hcD5 : @Ne Nat 258 D2 := hD2 _ (.tail _ (.tail _ (.tail _ (.tail _ (.head _)))))
    have hnD : ∀ p ∈ news, p.1 ≠ D2 := fun p hp => hD2 p (.tail _ (.tail _ (.tail _ (.tail _ (.tail _ (.tail _ hp))))))
    have hzl := IntsAre.length hzs
    (try dsimp only)
    have hul9 : us.length ≤ 8 := by omega
    k_with_none
    k_with "LeaveT" => (k_dflt (refine' leaveT_ ?z77k1 ?z77k2 ?z77k3 ?_; (case z77k1 => k_asm); (case z77k2 => k_asm); (case z77k3 => first | assumption | exact KtsTurn.refl | exact KtsTurn.trans (by assumption) (by assumption)); intro _ _ _ _ _ _ _; (try dsimp only); (try k_fold)))
    k_with "callWith ref" => (k_here; k_dflt (refine' callWith_K ?z78k1 ?z78k2 ?_; (case z78k1 => k_asm); (case z78k2 => k_is); k_whole))
    k_with "call ref" => (k_here; k_dflt (refine' Con.use ?z79kC ?z79k1 ?z79k2 ?z79k3 ?z79k4 ?z79k5 ?z79kK ?z79kd ?z79ku ?_; (case z79k2 => k_asm); (case z79k4 => k_asm); (case z79kC => first | (refine' con_draw _ _ _ _ _ _ _ _ _ _ _ _ _ ?z79a1 ?z79a2 ?z79a3 ?z79a4 ?z79a5 ?z79a6 ?z79a7; (case z79a1 => k_updF); (case z79a2 => k_mem); (case z79a3 => assumption); (case z79a4 => assumption); (case z79a5 => assumption); (case z79a6 => omega); (case z79a7 => omega))); (case z79k1 => k_asm); (case z79k3 => k_asm); (case z79k5 => k_asm); (case z79kK => first | exact rfl | assumption); (case z79kd => ktr_room); (case z79ku => ktr_units); intro _ _ _ _ _ _ _ _ _ _; (try dsimp only); (try k_fold)))
    k_with "call ref" => (k_here; k_dflt (refine' Con.use ?z80kC ?z80k1 ?z80k2 ?z80k3 ?z80k4 ?z80k5 ?z80kK ?z80kd ?z80ku ?_; (case z80k2 => k_asm); (case z80k4 => k_asm); (case z80kC => first | (refine' con_fault _ _ _ _ _ _ _ _ ?z80a1 ?z80a2 ?z80a3 ?z80a4; (case z80a1 => k_mem); (case z80a2 => assumption); (case z80a3 => omega); (case z80a4 => omega))); (case z80k1 => k_asm); (case z80k3 => k_asm); (case z80k5 => k_asm); (case z80kK => first | exact rfl | assumption); (case z80kd => ktr_room); (case z80ku => ktr_units); intro _ _ _ _ _; (try dsimp only); (try k_fold)))
    k_with "call ref" => (k_here; k_dflt (refine' Con.use ?z81kC ?z81k1 ?z81k2 ?z81k3 ?z81k4 ?z81k5 ?z81kK ?z81kd ?z81ku ?_; (case z81k2 => k_asm); (case z81k4 => k_asm); (case z81kC => first | (refine' con_words _ _ _ _ _ _ ?z81a1 ?z81a2 ?z81a3; (case z81a1 => k_mem); (case z81a2 => assumption); (case z81a3 => omega))); (case z81k1 => k_asm); (case z81k3 => k_asm); (case z81k5 => k_asm); (case z81kK => first | exact rfl | assumption); (case z81kd => ktr_room); (case z81ku => ktr_units); intro _ _ _ _ _ _ _ _ _; (try dsimp only); (try k_fold)))
    k_with "binaryOp Mult ref int" => (k_here; k_dflt (refine' mul5 ?z82F ?z82N ?z82m ?_; (case z82F => k_asm); (case z82N => k_asm); (case z82m => k_mem)); intro _ _ _ _ _)
    k_with "call type:bytes" => (k_here; (with_reducible show wpAny _ _ (call (Value.type "bytes") [Value.ref _]) _ _ _); k_dflt (refine' KBa.make_K ?z83kbaF ?z83kbaN ?z83kbah ?z83kbal ?z83kbai ?z83kbar ?z83kban ?_; (case z83kbaF => k_asm); (case z83kbaN => k_asm); (case z83kbah => rfl); (case z83kbal => exact News.isList (by k_asm) (by k_mem)); (case z83kbai => first | assumption | exact .cons _ _ (.cons _ _ .nil)); (case z83kbar => assumption); (case z83kban => first | (show (2 : Nat) ≤ _; decide) | kba_size)); intro _ _ _ _ _ kbaIn; (have kbaS := KBa.sum_in kbaIn))
    k_with "call ref" => (k_here; k_dflt (refine' Con.use ?z84kC ?z84k1 ?z84k2 ?z84k3 ?z84k4 ?z84k5 ?z84kK ?z84kd ?z84ku ?_; (case z84k2 => k_asm); (case z84k4 => k_asm); (case z84kC => first | (refine' con_codes _ _ _ _ _ _ ?z84a1 ?z84a2 ?z84a3 ?z84a4; (case z84a1 => k_mem); (case z84a2 => assumption); (case z84a3 => omega); (case z84a4 => assumption))); (case z84k1 => k_asm); (case z84k3 => k_asm); (case z84k5 => k_asm); (case z84kK => first | exact rfl | assumption); (case z84kd => ktr_room); (case z84ku => ktr_units); intro _ _ _ _ _ _ _ _ _; (try dsimp only); (try k_fold)))
    k_with "call ref" => (k_here; k_dflt (refine' Con.use ?z85kC ?z85k1 ?z85k2 ?z85k3 ?z85k4 ?z85k5 ?z85kK ?z85kd ?z85ku ?_; (case z85k2 => k_asm); (case z85k4 => k_asm); (case z85kC => first | (refine' con_joined _ _ _ _ _ _ ?z85a1 ?z85a2 ?z85a3 ?z85a4; (case z85a1 => omega); (case z85a2 => omega); (case z85a3 => omega); (case z85a4 => omega))); (case z85k1 => k_asm); (case z85k3 => k_asm); (case z85k5 => k_asm); (case z85kK => first | exact rfl | assumption); (case z85kd => ktr_room); (case z85ku => ktr_units); intro _ _ _ _ _; (try dsimp only); (try k_fold)))
    k_with "call ref" => (k_here; k_dflt (refine' Con.use ?z86kC ?z86k1 ?z86k2 ?z86k3 ?z86k4 ?z86k5 ?z86kK ?z86kd ?z86ku ?_; (case z86k2 => k_asm); (case z86k4 => k_asm); (case z86kC => first | (refine' con_octets_be _ _ _ _ _ ?z86a1 ?z86a2; (case z86a1 => omega); (case z86a2 => omega))); (case z86k1 => k_asm); (case z86k3 => k_asm); (case z86k5 => k_asm); (case z86kK => first | exact rfl | assumption); (case z86kd => ktr_room); (case z86ku => ktr_units); intro _ _ _ _ _ _ _ _ _; (try dsimp only); (try k_fold)))
    k_with "call ref" => (k_here; k_dflt (refine' Con.use ?z87kC ?z87k1 ?z87k2 ?z87k3 ?z87k4 ?z87k5 ?z87kK ?z87kd ?z87ku ?_; (case z87k2 => k_asm); (case z87k4 => k_asm); (case z87kC => first | (refine' con_octets_le _ _ _ _ _ ?z87a1 ?z87a2; (case z87a1 => omega); (case z87a2 => omega))); (case z87k1 => k_asm); (case z87k3 => k_asm); (case z87k5 => k_asm); (case z87kK => first | exact rfl | assumption); (case z87kd => ktr_room); (case z87ku => ktr_units); intro _ _ _ _ _ _ _ _ _; (try dsimp only); (try k_fold)))
    k_with "call ref" => (k_here; k_dflt (refine' Con.use ?z88kC ?z88k1 ?z88k2 ?z88k3 ?z88k4 ?z88k5 ?z88kK ?z88kd ?z88ku ?_; (case z88k2 => k_asm); (case z88k4 => k_asm); (case z88kC => first | (refine' con_unit_be _ _ _ _ _ _ _ ?z88a1 ?z88a2; (case z88a1 => assumption); (case z88a2 => first | assumption | rfl))); (case z88k1 => k_asm); (case z88k3 => k_asm); (case z88k5 => k_asm); (case z88kK => first | exact rfl | assumption); (case z88kd => ktr_room); (case z88ku => ktr_units); intro _ _ _ _ _; (try dsimp only); (try k_fold)))
    k_with "call ref" => (k_here; k_dflt (refine' Con.use ?z89kC ?z89k1 ?z89k2 ?z89k3 ?z89k4 ?z89k5 ?z89kK ?z89kd ?z89ku ?_; (case z89k2 => k_asm); (case z89k4 => k_asm); (case z89kC => first | (refine' con_unit_le _ _ _ _ _ _ _ ?z89a1 ?z89a2; (case z89a1 => assumption); (case z89a2 => first | assumption | rfl))); (case z89k1 => k_asm); (case z89k3 => k_asm); (case z89k5 => k_asm); (case z89kK => first | exact rfl | assumption); (case z89kd => ktr_room); (case z89ku => ktr_units); intro _ _ _ _ _; (try dsimp only); (try k_fold)))
    k_with "call ref" => (k_here; k_dflt (refine' Con.use ?z90kC ?z90k1 ?z90k2 ?z90k3 ?z90k4 ?z90k5 ?z90kK ?z90kd ?z90ku ?_; (case z90k2 => k_asm); (case z90k4 => k_asm); (case z90kC => first | (refine' con_mended2 _ _ _ _ _ _ _ ?z90a1 ?z90a2 ?z90a3 ?z90a4; (case z90a1 => k_mem); (case z90a2 => assumption); (case z90a3 => omega); (case z90a4 => first | exact mended_twice _ | rfl))); (case z90k1 => k_asm); (case z90k3 => k_asm); (case z90k5 => k_asm); (case z90kK => first | exact rfl | assumption); (case z90kd => ktr_room); (case z90ku => ktr_units); intro _ _ _ _ _ _ _ _ _; (try dsimp only); (try k_fold)))
    k_with "compareOp NotEq ref ref" => (k_here; (with_reducible show wpAny _ _ (compareOp CmpOp.NotEq (Value.ref _) (Value.ref _)) _ _ _); k_dflt (refine ne_same (by is_list) (by is_list) (by assumption) (by assumption) (by ke_room) ?_))
    k_with "compareOp Eq bytes bytes" => (k_dflt (refine eq_bytesK (by kba_ints) (by kba_ints) ?_))
    k_with "compareOp NotEq bytes bytes" => (k_dflt (refine ne_bytesK (by kba_ints) (by kba_ints) ?_))
    k_with "compareOp NotEq ref ref" => (k_here; (with_reducible show wpAny _ _ (compareOp CmpOp.NotEq (Value.ref _) (Value.ref _)) _ _ _); k_dflt (refine' ne_given ?z94gN ?z94g1 ?z94g2 ?z94g3 ?z94g4 ?z94g5 ?z94g6 ?z94gu ?_; (case z94gN => k_asm); (case z94g1 => k_mem); (case z94g4 => k_mem); (case z94g2 => k_mem); (case z94g3 => assumption); (case z94g5 => k_mem); (case z94g6 => assumption); (case z94gu => ke_room); k_whole))
    k_with "call ref" => (k_here; k_dflt (refine' ConX.use ?z95kC ?z95k1 ?z95k2 ?z95k3 ?z95k4 ?z95k5 ?z95kK ?z95kd ?z95ku ?_ ?_; (case z95k2 => k_asm); (case z95k4 => k_asm); (case z95kC => first | (refine' con_text _ _ _ _ _ _ ?z95a1 ?z95a2 ?z95a3; (case z95a1 => k_mem); (case z95a2 => assumption); (case z95a3 => omega))); (case z95k1 => k_asm); (case z95k3 => k_asm); (case z95k5 => k_asm); (case z95kK => first | exact rfl | assumption); (case z95kd => ktr_room); (case z95ku => ktr_units); intro _ _ _ _ _ _ _ _ _ _; (try dsimp only); (try k_fold); rotate_left; (refine ⟨?_, ?_⟩); (try dsimp only); rotate_right))
    k_with "call ref" => (k_here; k_dflt (refine' ConX.use ?z96kC ?z96k1 ?z96k2 ?z96k3 ?z96k4 ?z96k5 ?z96kK ?z96kd ?z96ku ?_ ?_; (case z96k2 => k_asm); (case z96k4 => k_asm); (case z96kC => first | (refine' con_units2 _ _ _ _ _ _ _ ?z96a1 ?z96a2 ?z96a3 ?z96a4; (case z96a1 => k_mem); (case z96a2 => assumption); (case z96a3 => omega); (case z96a4 => assumption))); (case z96k1 => k_asm); (case z96k3 => k_asm); (case z96k5 => k_asm); (case z96kK => first | exact rfl | assumption); (case z96kd => ktr_room); (case z96ku => ktr_units); intro _ _ _ _ _ _ h9 tk9 _ _; (try dsimp only); (try k_fold); rotate_left; intro _ _ _ _ _ _ _ _ _ _ _ _; (try dsimp only); rotate_right))
    k_with "call type:list" => (k_here; (with_reducible show wpAny _ _ (call (Value.type _) [Value.ref _]) _ _ _); k_dflt (refine' list_copyI ?z97F ?z97N ?z97m ?z97i ?z97z ?_; (case z97F => k_asm); (case z97N => k_asm); (case z97m => k_mem); (case z97i => assumption); (case z97z => omega)); intro _ _ _ _ _ _)
    k_with "eval Name" => (k_here; (with_reducible show wpAny _ _ (eval (Expr.Name _ _) (envX _ _ _ _ _ _)) _ _ _); k_dflt (refine' nameX_F ?z98N ?z98c ?z98m ?z98d ?_ ?z98a ?z98b; (case z98a => rfl); (case z98b => rfl); (case z98N => k_asm); (case z98c => rfl); (case z98m => k_mem); (case z98d => k_asm); k_whole))
    k_with "eval ListComp" => (k_dflt (refine ListComp_J (by k_asm) (by with_unfolding_all rfl) (by decide) (by rfl) (by decide) ?_))
    k_steps
    rename StrsAre _ _ => hs9
    rename Obj => oU
    rename Obj.data oU = _ => dU
    have hfl := StrsAre.length hs9
    simp only [List.length_map, List.length_range] at hfl
    rename ∀ p ∈ (D2, _) :: _, _ => hlF
    rename News _ _ _ ((_, listOf _ _) :: (D2, _) :: _) => N7
    obtain ⟨led, hled⟩ := led_of N7
    have hF1 : @Ne Nat D2 _ := hlF _ (.head _)
    have hF2 : @Ne Nat (L' + 1 + 1 + 1) _ := hlF _ (.tail _ (.head _))
    have hF3 : @Ne Nat (L' + 1 + 1) _ := hlF _ (.tail _ (.tail _ (.head _)))
    have hF4 : @Ne Nat (L' + 1) _ := hlF _ (.tail _ (.tail _ (.tail _ (.head _))))
    have hF5 : @Ne Nat 253 _ := hlF _ (.tail _ (.tail _ (.tail _ (.tail _ (.head _)))))
    have hF6 : @Ne Nat 258 _ := hlF _ (.tail _ (.tail _ (.tail _ (.tail _ (.tail _ (.head _))))))
    have hF7 : @Ne Nat TP _ := hlF _ (.tail _ (.tail _ (.tail _ (.tail _ (.tail _ (.tail _ (.head _)))))))
    have hnF : ∀ p ∈ news, p.1 ≠ _ := fun p hp => hlF p (.tail _ (.tail _ (.tail _ (.tail _ (.tail _ (.tail _ (.tail _ hp)))))))
    clear hlF hD2
    k_dflt (refine comp_range (by rfl) (by k_asm) (by k_asm) (by assumption) (small_one (by omega) (by omega) (by omega) (by omega)) (rangeSize_nat _ _) (by rw [sizeLine_eq]; omega) (by rfl) (by rfl) (fun i ys n₂ => n₂ = led ∧ StrsAre ys ((List.range i).map fun j => Str.ofString (faultS us j))) ⟨hled, .nil⟩ ?turn2 ?fin2)
    case turn2 =>
      intro g8 i3 ys n₂ own2 C3 D3 oC3 m3 h8 tk8 E8 hi8 hz3 hJ3 hoff3 hw3 hown3 hoC3 F8 N8
      obtain ⟨e3, hys⟩ := hJ3
      subst e3
      obtain ⟨x, ⟨tx, rfl⟩, hx⟩ := hz3
      (try dsimp only)
      have ek : (0 : Int) + (i3 : Int) * 1 = ((i3 : Nat) : Int) := by omega
      rw [ek] at hx
      have hi9 : i3 < us.length := by omega
      obtain ⟨rest3, hrest3⟩ : ∃ r, r = n₂ ++ own2 := ⟨_, rfl⟩
      have hmU : (L' + 1 + 1, oU) ∈ rest3 := hrest3 ▸ List.mem_append_left _ (hled ▸ by k_mem)
      have hmD : (D2, lst zs) ∈ rest3 := hrest3 ▸ List.mem_append_left _ (hled ▸ by k_mem)
      rw [← hrest3] at N8
      clear hled
      refine tests_ce ?_
      intro qc hqc
      (try dsimp only)
      k_steps
      subst hrest3
      exact CE.go hqc (n' := _) (by k_asm) (ce_back (by k_asm)) hoff3 ⟨rfl, by rw [range_map_snoc]; exact strs_snoc hys⟩
    case fin2 =>
      rintro g8 tk8 ys n₂ ⟨e3, hys⟩ D3 h8 tk8' F8 N8 hD3
      subst e3
      subst hled
      (try dsimp only)
      rw [show (((us.length : Int) - 0).toNat) = us.length by omega] at hys
      k_with "compareOp NotEq ref ref" => (k_dflt (refine WStop.go ?_))
      k_with "compareOp NotEq ref ref" => (k_here; (with_reducible show wpAny _ _ (compareOp CmpOp.NotEq (Value.ref _) (Value.ref _)) _ _ _); k_dflt (refine ne_same (by is_list) (by is_list) (by assumption) (by assumption) (by ke_room) ?_))
      k_with "compareOp NotEq ref ref" => (k_here; (with_reducible show wpAny _ _ (compareOp CmpOp.NotEq (Value.ref _) (Value.ref _)) _ _ _); k_dflt (refine' ne_given ?z94gN ?z94g1 ?z94g2 ?z94g3 ?z94g4 ?z94g5 ?z94g6 ?z94gu ?_; (case z94gN => k_asm); (case z94g1 => k_mem); (case z94g4 => k_mem); (case z94g2 => k_mem); (case z94g3 => assumption); (case z94g5 => k_mem); (case z94g6 => assumption); (case z94gu => ke_room); k_whole))
      k_steps
      unfold WStop
      k_with_none
      k_with "LeaveT" => (k_dflt (refine' leaveT_ ?z77k1 ?z77k2 ?z77k3 ?_; (case z77k1 => k_asm); (case z77k2 => k_asm); (case z77k3 => first | assumption | exact KtsTurn.refl | exact KtsTurn.trans (by assumption) (by assumption)); intro _ _ _ _ _ _ _; (try dsimp only); (try k_fold)))
      k_with "callWith ref" => (k_here; k_dflt (refine' callWith_K ?z78k1 ?z78k2 ?_; (case z78k1 => k_asm); (case z78k2 => k_is); k_whole))
      k_with "call ref" => (k_here; k_dflt (refine' Con.use ?z79kC ?z79k1 ?z79k2 ?z79k3 ?z79k4 ?z79k5 ?z79kK ?z79kd ?z79ku ?_; (case z79k2 => k_asm); (case z79k4 => k_asm); (case z79kC => first | (refine' con_draw _ _ _ _ _ _ _ _ _ _ _ _ _ ?z79a1 ?z79a2 ?z79a3 ?z79a4 ?z79a5 ?z79a6 ?z79a7; (case z79a1 => k_updF); (case z79a2 => k_mem); (case z79a3 => assumption); (case z79a4 => assumption); (case z79a5 => assumption); (case z79a6 => omega); (case z79a7 => omega))); (case z79k1 => k_asm); (case z79k3 => k_asm); (case z79k5 => k_asm); (case z79kK => first | exact rfl | assumption); (case z79kd => ktr_room); (case z79ku => ktr_units); intro _ _ _ _ _ _ _ _ _ _; (try dsimp only); (try k_fold)))
      k_with "call ref" => (k_here; k_dflt (refine' Con.use ?z80kC ?z80k1 ?z80k2 ?z80k3 ?z80k4 ?z80k5 ?z80kK ?z80kd ?z80ku ?_; (case z80k2 => k_asm); (case z80k4 => k_asm); (case z80kC => first | (refine' con_fault _ _ _ _ _ _ _ _ ?z80a1 ?z80a2 ?z80a3 ?z80a4; (case z80a1 => k_mem); (case z80a2 => assumption); (case z80a3 => omega); (case z80a4 => omega))); (case z80k1 => k_asm); (case z80k3 => k_asm); (case z80k5 => k_asm); (case z80kK => first | exact rfl | assumption); (case z80kd => ktr_room); (case z80ku => ktr_units); intro _ _ _ _ _; (try dsimp only); (try k_fold)))
      k_with "call ref" => (k_here; k_dflt (refine' Con.use ?z81kC ?z81k1 ?z81k2 ?z81k3 ?z81k4 ?z81k5 ?z81kK ?z81kd ?z81ku ?_; (case z81k2 => k_asm); (case z81k4 => k_asm); (case z81kC => first | (refine' con_words _ _ _ _ _ _ ?z81a1 ?z81a2 ?z81a3; (case z81a1 => k_mem); (case z81a2 => assumption); (case z81a3 => omega))); (case z81k1 => k_asm); (case z81k3 => k_asm); (case z81k5 => k_asm); (case z81kK => first | exact rfl | assumption); (case z81kd => ktr_room); (case z81ku => ktr_units); intro _ _ _ _ _ _ _ _ _; (try dsimp only); (try k_fold)))
      k_with "binaryOp Mult ref int" => (k_here; k_dflt (refine' mul5 ?z82F ?z82N ?z82m ?_; (case z82F => k_asm); (case z82N => k_asm); (case z82m => k_mem)); intro _ _ _ _ _)
      k_with "call type:bytes" => (k_here; (with_reducible show wpAny _ _ (call (Value.type "bytes") [Value.ref _]) _ _ _); k_dflt (refine' KBa.make_K ?z83kbaF ?z83kbaN ?z83kbah ?z83kbal ?z83kbai ?z83kbar ?z83kban ?_; (case z83kbaF => k_asm); (case z83kbaN => k_asm); (case z83kbah => rfl); (case z83kbal => exact News.isList (by k_asm) (by k_mem)); (case z83kbai => first | assumption | exact .cons _ _ (.cons _ _ .nil)); (case z83kbar => assumption); (case z83kban => first | (show (2 : Nat) ≤ _; decide) | kba_size)); intro _ _ _ _ _ kbaIn; (have kbaS := KBa.sum_in kbaIn))
      k_with "call ref" => (k_here; k_dflt (refine' Con.use ?z84kC ?z84k1 ?z84k2 ?z84k3 ?z84k4 ?z84k5 ?z84kK ?z84kd ?z84ku ?_; (case z84k2 => k_asm); (case z84k4 => k_asm); (case z84kC => first | (refine' con_codes _ _ _ _ _ _ ?z84a1 ?z84a2 ?z84a3 ?z84a4; (case z84a1 => k_mem); (case z84a2 => assumption); (case z84a3 => omega); (case z84a4 => assumption))); (case z84k1 => k_asm); (case z84k3 => k_asm); (case z84k5 => k_asm); (case z84kK => first | exact rfl | assumption); (case z84kd => ktr_room); (case z84ku => ktr_units); intro _ _ _ _ _ _ _ _ _; (try dsimp only); (try k_fold)))
      k_with "call ref" => (k_here; k_dflt (refine' Con.use ?z85kC ?z85k1 ?z85k2 ?z85k3 ?z85k4 ?z85k5 ?z85kK ?z85kd ?z85ku ?_; (case z85k2 => k_asm); (case z85k4 => k_asm); (case z85kC => first | (refine' con_joined _ _ _ _ _ _ ?z85a1 ?z85a2 ?z85a3 ?z85a4; (case z85a1 => omega); (case z85a2 => omega); (case z85a3 => omega); (case z85a4 => omega))); (case z85k1 => k_asm); (case z85k3 => k_asm); (case z85k5 => k_asm); (case z85kK => first | exact rfl | assumption); (case z85kd => ktr_room); (case z85ku => ktr_units); intro _ _ _ _ _; (try dsimp only); (try k_fold)))
      k_with "call ref" => (k_here; k_dflt (refine' Con.use ?z86kC ?z86k1 ?z86k2 ?z86k3 ?z86k4 ?z86k5 ?z86kK ?z86kd ?z86ku ?_; (case z86k2 => k_asm); (case z86k4 => k_asm); (case z86kC => first | (refine' con_octets_be _ _ _ _ _ ?z86a1 ?z86a2; (case z86a1 => omega); (case z86a2 => omega))); (case z86k1 => k_asm); (case z86k3 => k_asm); (case z86k5 => k_asm); (case z86kK => first | exact rfl | assumption); (case z86kd => ktr_room); (case z86ku => ktr_units); intro _ _ _ _ _ _ _ _ _; (try dsimp only); (try k_fold)))
      k_with "call ref" => (k_here; k_dflt (refine' Con.use ?z87kC ?z87k1 ?z87k2 ?z87k3 ?z87k4 ?z87k5 ?z87kK ?z87kd ?z87ku ?_; (case z87k2 => k_asm); (case z87k4 => k_asm); (case z87kC => first | (refine' con_octets_le _ _ _ _ _ ?z87a1 ?z87a2; (case z87a1 => omega); (case z87a2 => omega))); (case z87k1 => k_asm); (case z87k3 => k_asm); (case z87k5 => k_asm); (case z87kK => first | exact rfl | assumption); (case z87kd => ktr_room); (case z87ku => ktr_units); intro _ _ _ _ _ _ _ _ _; (try dsimp only); (try k_fold)))
      k_with "call ref" => (k_here; k_dflt (refine' Con.use ?z88kC ?z88k1 ?z88k2 ?z88k3 ?z88k4 ?z88k5 ?z88kK ?z88kd ?z88ku ?_; (case z88k2 => k_asm); (case z88k4 => k_asm); (case z88kC => first | (refine' con_unit_be _ _ _ _ _ _ _ ?z88a1 ?z88a2; (case z88a1 => assumption); (case z88a2 => first | assumption | rfl))); (case z88k1 => k_asm); (case z88k3 => k_asm); (case z88k5 => k_asm); (case z88kK => first | exact rfl | assumption); (case z88kd => ktr_room); (case z88ku => ktr_units); intro _ _ _ _ _; (try dsimp only); (try k_fold)))
      k_with "call ref" => (k_here; k_dflt (refine' Con.use ?z89kC ?z89k1 ?z89k2 ?z89k3 ?z89k4 ?z89k5 ?z89kK ?z89kd ?z89ku ?_; (case z89k2 => k_asm); (case z89k4 => k_asm); (case z89kC => first | (refine' con_unit_le _ _ _ _ _ _ _ ?z89a1 ?z89a2; (case z89a1 => assumption); (case z89a2 => first | assumption | rfl))); (case z89k1 => k_asm); (case z89k3 => k_asm); (case z89k5 => k_asm); (case z89kK => first | exact rfl | assumption); (case z89kd => ktr_room); (case z89ku => ktr_units); intro _ _ _ _ _; (try dsimp only); (try k_fold)))
      k_with "call ref" => (k_here; k_dflt (refine' Con.use ?z90kC ?z90k1 ?z90k2 ?z90k3 ?z90k4 ?z90k5 ?z90kK ?z90kd ?z90ku ?_; (case z90k2 => k_asm); (case z90k4 => k_asm); (case z90kC => first | (refine' con_mended2 _ _ _ _ _ _ _ ?z90a1 ?z90a2 ?z90a3 ?z90a4; (case z90a1 => k_mem); (case z90a2 => assumption); (case z90a3 => omega); (case z90a4 => first | exact mended_twice _ | rfl))); (case z90k1 => k_asm); (case z90k3 => k_asm); (case z90k5 => k_asm); (case z90kK => first | exact rfl | assumption); (case z90kd => ktr_room); (case z90ku => ktr_units); intro _ _ _ _ _ _ _ _ _; (try dsimp only); (try k_fold)))
      k_with "compareOp NotEq ref ref" => (k_here; (with_reducible show wpAny _ _ (compareOp CmpOp.NotEq (Value.ref _) (Value.ref _)) _ _ _); k_dflt (refine ne_same (by is_list) (by is_list) (by assumption) (by assumption) (by ke_room) ?_))
      k_with "compareOp Eq bytes bytes" => (k_dflt (refine eq_bytesK (by kba_ints) (by kba_ints) ?_))
      k_with "compareOp NotEq bytes bytes" => (k_dflt (refine ne_bytesK (by kba_ints) (by kba_ints) ?_))
      k_with "compareOp NotEq ref ref" => (k_here; (with_reducible show wpAny _ _ (compareOp CmpOp.NotEq (Value.ref _) (Value.ref _)) _ _ _); k_dflt (refine' ne_given ?z94gN ?z94g1 ?z94g2 ?z94g3 ?z94g4 ?z94g5 ?z94g6 ?z94gu ?_; (case z94gN => k_asm); (case z94g1 => k_mem); (case z94g4 => k_mem); (case z94g2 => k_mem); (case z94g3 => assumption); (case z94g5 => k_mem); (case z94g6 => assumption); (case z94gu => ke_room); k_whole))
      k_with "call ref" => (k_here; k_dflt (refine' ConX.use ?z95kC ?z95k1 ?z95k2 ?z95k3 ?z95k4 ?z95k5 ?z95kK ?z95kd ?z95ku ?_ ?_; (case z95k2 => k_asm); (case z95k4 => k_asm); (case z95kC => first | (refine' con_text _ _ _ _ _ _ ?z95a1 ?z95a2 ?z95a3; (case z95a1 => k_mem); (case z95a2 => assumption); (case z95a3 => omega))); (case z95k1 => k_asm); (case z95k3 => k_asm); (case z95k5 => k_asm); (case z95kK => first | exact rfl | assumption); (case z95kd => ktr_room); (case z95ku => ktr_units); intro _ _ _ _ _ _ _ _ _ _; (try dsimp only); (try k_fold); rotate_left; (refine ⟨?_, ?_⟩); (try dsimp only); rotate_right))
      k_with "call ref" => (k_here; k_dflt (refine' ConX.use ?z96kC ?z96k1 ?z96k2 ?z96k3 ?z96k4 ?z96k5 ?z96kK ?z96kd ?z96ku ?_ ?_; (case z96k2 => k_asm); (case z96k4 => k_asm); (case z96kC => first | (refine' con_units2 _ _ _ _ _ _ _ ?z96a1 ?z96a2 ?z96a3 ?z96a4; (case z96a1 => k_mem); (case z96a2 => assumption); (case z96a3 => omega); (case z96a4 => assumption))); (case z96k1 => k_asm); (case z96k3 => k_asm); (case z96k5 => k_asm); (case z96kK => first | exact rfl | assumption); (case z96kd => ktr_room); (case z96ku => ktr_units); intro _ _ _ _ _ _ h9 tk9 _ _; (try dsimp only); (try k_fold); rotate_left; intro _ _ _ _ _ _ _ _ _ _ _ _; (try dsimp only); rotate_right))
      k_with "call type:list" => (k_here; (with_reducible show wpAny _ _ (call (Value.type _) [Value.ref _]) _ _ _); k_dflt (refine' list_copyI ?z97F ?z97N ?z97m ?z97i ?z97z ?_; (case z97F => k_asm); (case z97N => k_asm); (case z97m => k_mem); (case z97i => assumption); (case z97z => omega)); intro _ _ _ _ _ _)
      k_with "eval Name" => (k_here; (with_reducible show wpAny _ _ (eval (Expr.Name _ _) (envX _ _ _ _ _ _)) _ _ _); k_dflt (refine' nameX_F ?z98N ?z98c ?z98m ?z98d ?_ ?z98a ?z98b; (case z98a => rfl); (case z98b => rfl); (case z98N => k_asm); (case z98c => rfl); (case z98m => k_mem); (case z98d => k_asm); k_whole))
      k_dflt (refine ne_strs (by k_asm) (.head _) (.tail _ (.head _)) hys (by assumption) (by ke_room) ?_)
      k_with "exec Assign cons ListComp" => (k_dflt (refine wpAny_Assign_Name ?_ (by with_unfolding_all rfl)))
      k_with "eval ListComp" => (k_dflt (refine ListComp_J (by k_asm) (by with_unfolding_all rfl) (by decide) (by rfl) (by decide) ?_))
      k_with "call type:zip" => (k_dflt (refine WStop.go ?_))
      k_steps
      unfold WStop
      clear hys hD3
      have N8 := news_sub N8 (fun p hp => .tail _ hp)
      obtain ⟨led, hled⟩ := led_of N8
      k_dflt (refine comp_zip (by rfl) F8 N8 (.head _) (.tail _ (.head _)) (by rw [hfl, hzl, Nat.min_self, sizeLine_eq]; omega) (by rfl) (by rfl) (by rfl) (by decide) (fun i ys n₂ => n₂ = led ∧ IntsAre ys ((List.range i).map fun i => if faultS us i = "" then us.getD i 0 else 65533)) ⟨hled, .nil⟩ ?turn3 ?fin3)
      case turn3 =>
        intro g7 i4 ys n₂ own4 C4 D4 oC4 m4 h7 tk7 E7 hi7 hz4 hJ4 hoff4 hw4 hown4 hoC4 F7 N7
        obtain ⟨e3, hys⟩ := hJ4
        subst e3
        clear hled
        obtain ⟨rest4, hrest4⟩ : ∃ r, r = n₂ ++ own4 := ⟨_, rfl⟩
        rw [← hrest4] at N7
        obtain ⟨x, y, ⟨hx, hy⟩, hxa, hxb⟩ := hz4
        obtain ⟨hlt, tx, rfl⟩ := strs_item hs9 hx
        obtain ⟨hlt2, ty, rfl⟩ := ints_item hzs hy
        rw [getD_map_range _ _ _ _ hlt2] at hxa
        (try dsimp only)
        refine tests_ce ?_
        intro qc hqc
        (try dsimp only)
        k_steps
        all_goals subst hrest4
        all_goals (rename (_ != _) = _ => hq; rw [fault_bne] at hq; simp only [decide_eq_true_eq, decide_eq_false_iff_not, Classical.not_not] at hq)
        all_goals (refine CE.go hqc (n' := _) (by k_asm) (ce_back (by k_asm)) hoff4 ⟨rfl, ?_⟩; rw [range_map_snoc])
        · rw [if_neg hq]; exact ints_snoc hys _ _
        · rw [if_pos hq]; exact ints_snoc hys _ _
      case fin3 =>
        rintro g7 tk7 ys n₂ ⟨e3, hys⟩ D4 h7 tk7' F7 N7 hD4
        subst e3
        subst hled
        (try dsimp only)
        rw [hfl, hzl, Nat.min_self] at hys
        replace hys : IntsAre ys (mendedL us) := hys
        have hG1 : @Ne Nat D2 D4 := hD4 _ (.tail _ (.head _))
        have hG2 : @Ne Nat (L' + 1 + 1 + 1) D4 := hD4 _ (.tail _ (.tail _ (.head _)))
        have hG3 : @Ne Nat (L' + 1 + 1) D4 := hD4 _ (.tail _ (.tail _ (.tail _ (.head _))))
        have hG4 : @Ne Nat (L' + 1) D4 := hD4 _ (.tail _ (.tail _ (.tail _ (.tail _ (.head _)))))
        have hG5 : @Ne Nat 253 D4 := hD4 _ (.tail _ (.tail _ (.tail _ (.tail _ (.tail _ (.head _))))))
        have hG6 : @Ne Nat 258 D4 := hD4 _ (.tail _ (.tail _ (.tail _ (.tail _ (.tail _ (.tail _ (.head _)))))))
        have hG7 : @Ne Nat TP D4 := hD4 _ (.tail _ (.tail _ (.tail _ (.tail _ (.tail _ (.tail _ (.tail _ (.head _))))))))
        have hnG : ∀ p ∈ news, p.1 ≠ D4 := fun p hp => hD4 p (.tail _ (.tail _ (.tail _ (.tail _ (.tail _ (.tail _ (.tail _ (.tail _ hp))))))))
        clear hD4 hs9
        have N7 := news_sub (b := (D4, lst ys) :: (D2, lst zs) :: (L' + 1 + 1 + 1, oc1) :: (L' + 1 + 1, oU) :: (L' + 1, oc3) :: (253, tabObj #[]) :: (258, tabObj #[]) :: (TP, _) :: news) N7 sub_two
        have hyl : ys.length = us.length := (IntsAre.length hys).trans (mended_len us)
        have hml : (mendedL us).length ≤ 8 := by rw [mended_len]; exact hul9
        clear hF1 hF2 hF3 hF4 hF5 hF6 hF7 hnF
        k_with_none
        k_with "LeaveT" => (k_dflt (refine' leaveT_ ?z77k1 ?z77k2 ?z77k3 ?_; (case z77k1 => k_asm); (case z77k2 => k_asm); (case z77k3 => first | assumption | exact KtsTurn.refl | exact KtsTurn.trans (by assumption) (by assumption)); intro _ _ _ _ _ _ _; (try dsimp only); (try k_fold)))
        k_with "callWith ref" => (k_here; k_dflt (refine' callWith_K ?z78k1 ?z78k2 ?_; (case z78k1 => k_asm); (case z78k2 => k_is); k_whole))
        k_with "call ref" => (k_here; k_dflt (refine' Con.use ?z79kC ?z79k1 ?z79k2 ?z79k3 ?z79k4 ?z79k5 ?z79kK ?z79kd ?z79ku ?_; (case z79k2 => k_asm); (case z79k4 => k_asm); (case z79kC => first | (refine' con_draw _ _ _ _ _ _ _ _ _ _ _ _ _ ?z79a1 ?z79a2 ?z79a3 ?z79a4 ?z79a5 ?z79a6 ?z79a7; (case z79a1 => k_updF); (case z79a2 => k_mem); (case z79a3 => assumption); (case z79a4 => assumption); (case z79a5 => assumption); (case z79a6 => omega); (case z79a7 => omega))); (case z79k1 => k_asm); (case z79k3 => k_asm); (case z79k5 => k_asm); (case z79kK => first | exact rfl | assumption); (case z79kd => ktr_room); (case z79ku => ktr_units); intro _ _ _ _ _ _ _ _ _ _; (try dsimp only); (try k_fold)))
        k_with "call ref" => (k_here; k_dflt (refine' Con.use ?z80kC ?z80k1 ?z80k2 ?z80k3 ?z80k4 ?z80k5 ?z80kK ?z80kd ?z80ku ?_; (case z80k2 => k_asm); (case z80k4 => k_asm); (case z80kC => first | (refine' con_fault _ _ _ _ _ _ _ _ ?z80a1 ?z80a2 ?z80a3 ?z80a4; (case z80a1 => k_mem); (case z80a2 => assumption); (case z80a3 => omega); (case z80a4 => omega))); (case z80k1 => k_asm); (case z80k3 => k_asm); (case z80k5 => k_asm); (case z80kK => first | exact rfl | assumption); (case z80kd => ktr_room); (case z80ku => ktr_units); intro _ _ _ _ _; (try dsimp only); (try k_fold)))
        k_with "call ref" => (k_here; k_dflt (refine' Con.use ?z81kC ?z81k1 ?z81k2 ?z81k3 ?z81k4 ?z81k5 ?z81kK ?z81kd ?z81ku ?_; (case z81k2 => k_asm); (case z81k4 => k_asm); (case z81kC => first | (refine' con_words _ _ _ _ _ _ ?z81a1 ?z81a2 ?z81a3; (case z81a1 => k_mem); (case z81a2 => assumption); (case z81a3 => omega))); (case z81k1 => k_asm); (case z81k3 => k_asm); (case z81k5 => k_asm); (case z81kK => first | exact rfl | assumption); (case z81kd => ktr_room); (case z81ku => ktr_units); intro _ _ _ _ _ _ _ _ _; (try dsimp only); (try k_fold)))
        k_with "binaryOp Mult ref int" => (k_here; k_dflt (refine' mul5 ?z82F ?z82N ?z82m ?_; (case z82F => k_asm); (case z82N => k_asm); (case z82m => k_mem)); intro _ _ _ _ _)
        k_with "call type:bytes" => (k_here; (with_reducible show wpAny _ _ (call (Value.type "bytes") [Value.ref _]) _ _ _); k_dflt (refine' KBa.make_K ?z83kbaF ?z83kbaN ?z83kbah ?z83kbal ?z83kbai ?z83kbar ?z83kban ?_; (case z83kbaF => k_asm); (case z83kbaN => k_asm); (case z83kbah => rfl); (case z83kbal => exact News.isList (by k_asm) (by k_mem)); (case z83kbai => first | assumption | exact .cons _ _ (.cons _ _ .nil)); (case z83kbar => assumption); (case z83kban => first | (show (2 : Nat) ≤ _; decide) | kba_size)); intro _ _ _ _ _ kbaIn; (have kbaS := KBa.sum_in kbaIn))
        k_with "call ref" => (k_here; k_dflt (refine' Con.use ?z84kC ?z84k1 ?z84k2 ?z84k3 ?z84k4 ?z84k5 ?z84kK ?z84kd ?z84ku ?_; (case z84k2 => k_asm); (case z84k4 => k_asm); (case z84kC => first | (refine' con_codes _ _ _ _ _ _ ?z84a1 ?z84a2 ?z84a3 ?z84a4; (case z84a1 => k_mem); (case z84a2 => assumption); (case z84a3 => omega); (case z84a4 => assumption))); (case z84k1 => k_asm); (case z84k3 => k_asm); (case z84k5 => k_asm); (case z84kK => first | exact rfl | assumption); (case z84kd => ktr_room); (case z84ku => ktr_units); intro _ _ _ _ _ _ _ _ _; (try dsimp only); (try k_fold)))
        k_with "call ref" => (k_here; k_dflt (refine' Con.use ?z85kC ?z85k1 ?z85k2 ?z85k3 ?z85k4 ?z85k5 ?z85kK ?z85kd ?z85ku ?_; (case z85k2 => k_asm); (case z85k4 => k_asm); (case z85kC => first | (refine' con_joined _ _ _ _ _ _ ?z85a1 ?z85a2 ?z85a3 ?z85a4; (case z85a1 => omega); (case z85a2 => omega); (case z85a3 => omega); (case z85a4 => omega))); (case z85k1 => k_asm); (case z85k3 => k_asm); (case z85k5 => k_asm); (case z85kK => first | exact rfl | assumption); (case z85kd => ktr_room); (case z85ku => ktr_units); intro _ _ _ _ _; (try dsimp only); (try k_fold)))
        k_with "call ref" => (k_here; k_dflt (refine' Con.use ?z86kC ?z86k1 ?z86k2 ?z86k3 ?z86k4 ?z86k5 ?z86kK ?z86kd ?z86ku ?_; (case z86k2 => k_asm); (case z86k4 => k_asm); (case z86kC => first | (refine' con_octets_be _ _ _ _ _ ?z86a1 ?z86a2; (case z86a1 => omega); (case z86a2 => omega))); (case z86k1 => k_asm); (case z86k3 => k_asm); (case z86k5 => k_asm); (case z86kK => first | exact rfl | assumption); (case z86kd => ktr_room); (case z86ku => ktr_units); intro _ _ _ _ _ _ _ _ _; (try dsimp only); (try k_fold)))
        k_with "call ref" => (k_here; k_dflt (refine' Con.use ?z87kC ?z87k1 ?z87k2 ?z87k3 ?z87k4 ?z87k5 ?z87kK ?z87kd ?z87ku ?_; (case z87k2 => k_asm); (case z87k4 => k_asm); (case z87kC => first | (refine' con_octets_le _ _ _ _ _ ?z87a1 ?z87a2; (case z87a1 => omega); (case z87a2 => omega))); (case z87k1 => k_asm); (case z87k3 => k_asm); (case z87k5 => k_asm); (case z87kK => first | exact rfl | assumption); (case z87kd => ktr_room); (case z87ku => ktr_units); intro _ _ _ _ _ _ _ _ _; (try dsimp only); (try k_fold)))
        k_with "call ref" => (k_here; k_dflt (refine' Con.use ?z88kC ?z88k1 ?z88k2 ?z88k3 ?z88k4 ?z88k5 ?z88kK ?z88kd ?z88ku ?_; (case z88k2 => k_asm); (case z88k4 => k_asm); (case z88kC => first | (refine' con_unit_be _ _ _ _ _ _ _ ?z88a1 ?z88a2; (case z88a1 => assumption); (case z88a2 => first | assumption | rfl))); (case z88k1 => k_asm); (case z88k3 => k_asm); (case z88k5 => k_asm); (case z88kK => first | exact rfl | assumption); (case z88kd => ktr_room); (case z88ku => ktr_units); intro _ _ _ _ _; (try dsimp only); (try k_fold)))
        k_with "call ref" => (k_here; k_dflt (refine' Con.use ?z89kC ?z89k1 ?z89k2 ?z89k3 ?z89k4 ?z89k5 ?z89kK ?z89kd ?z89ku ?_; (case z89k2 => k_asm); (case z89k4 => k_asm); (case z89kC => first | (refine' con_unit_le _ _ _ _ _ _ _ ?z89a1 ?z89a2; (case z89a1 => assumption); (case z89a2 => first | assumption | rfl))); (case z89k1 => k_asm); (case z89k3 => k_asm); (case z89k5 => k_asm); (case z89kK => first | exact rfl | assumption); (case z89kd => ktr_room); (case z89ku => ktr_units); intro _ _ _ _ _; (try dsimp only); (try k_fold)))
        k_with "call ref" => (k_here; k_dflt (refine' Con.use ?z90kC ?z90k1 ?z90k2 ?z90k3 ?z90k4 ?z90k5 ?z90kK ?z90kd ?z90ku ?_; (case z90k2 => k_asm); (case z90k4 => k_asm); (case z90kC => first | (refine' con_mended2 _ _ _ _ _ _ _ ?z90a1 ?z90a2 ?z90a3 ?z90a4; (case z90a1 => k_mem); (case z90a2 => assumption); (case z90a3 => omega); (case z90a4 => first | exact mended_twice _ | rfl))); (case z90k1 => k_asm); (case z90k3 => k_asm); (case z90k5 => k_asm); (case z90kK => first | exact rfl | assumption); (case z90kd => ktr_room); (case z90ku => ktr_units); intro _ _ _ _ _ _ _ _ _; (try dsimp only); (try k_fold)))
        k_with "compareOp NotEq ref ref" => (k_here; (with_reducible show wpAny _ _ (compareOp CmpOp.NotEq (Value.ref _) (Value.ref _)) _ _ _); k_dflt (refine ne_same (by is_list) (by is_list) (by assumption) (by assumption) (by ke_room) ?_))
        k_with "compareOp Eq bytes bytes" => (k_dflt (refine eq_bytesK (by kba_ints) (by kba_ints) ?_))
        k_with "compareOp NotEq bytes bytes" => (k_dflt (refine ne_bytesK (by kba_ints) (by kba_ints) ?_))
        k_with "compareOp NotEq ref ref" => (k_here; (with_reducible show wpAny _ _ (compareOp CmpOp.NotEq (Value.ref _) (Value.ref _)) _ _ _); k_dflt (refine' ne_given ?z94gN ?z94g1 ?z94g2 ?z94g3 ?z94g4 ?z94g5 ?z94g6 ?z94gu ?_; (case z94gN => k_asm); (case z94g1 => k_mem); (case z94g4 => k_mem); (case z94g2 => k_mem); (case z94g3 => assumption); (case z94g5 => k_mem); (case z94g6 => assumption); (case z94gu => ke_room); k_whole))
        k_with "call ref" => (k_here; k_dflt (refine' ConX.use ?z95kC ?z95k1 ?z95k2 ?z95k3 ?z95k4 ?z95k5 ?z95kK ?z95kd ?z95ku ?_ ?_; (case z95k2 => k_asm); (case z95k4 => k_asm); (case z95kC => first | (refine' con_text _ _ _ _ _ _ ?z95a1 ?z95a2 ?z95a3; (case z95a1 => k_mem); (case z95a2 => assumption); (case z95a3 => omega))); (case z95k1 => k_asm); (case z95k3 => k_asm); (case z95k5 => k_asm); (case z95kK => first | exact rfl | assumption); (case z95kd => ktr_room); (case z95ku => ktr_units); intro _ _ _ _ _ _ _ _ _ _; (try dsimp only); (try k_fold); rotate_left; (refine ⟨?_, ?_⟩); (try dsimp only); rotate_right))
        k_with "call ref" => (k_here; k_dflt (refine' ConX.use ?z96kC ?z96k1 ?z96k2 ?z96k3 ?z96k4 ?z96k5 ?z96kK ?z96kd ?z96ku ?_ ?_; (case z96k2 => k_asm); (case z96k4 => k_asm); (case z96kC => first | (refine' con_units2 _ _ _ _ _ _ _ ?z96a1 ?z96a2 ?z96a3 ?z96a4; (case z96a1 => k_mem); (case z96a2 => assumption); (case z96a3 => omega); (case z96a4 => assumption))); (case z96k1 => k_asm); (case z96k3 => k_asm); (case z96k5 => k_asm); (case z96kK => first | exact rfl | assumption); (case z96kd => ktr_room); (case z96ku => ktr_units); intro _ _ _ _ _ _ h9 tk9 _ _; (try dsimp only); (try k_fold); rotate_left; intro _ _ _ _ _ _ _ _ _ _ _ _; (try dsimp only); rotate_right))
        k_with "call type:list" => (k_here; (with_reducible show wpAny _ _ (call (Value.type _) [Value.ref _]) _ _ _); k_dflt (refine' list_copyI ?z97F ?z97N ?z97m ?z97i ?z97z ?_; (case z97F => k_asm); (case z97N => k_asm); (case z97m => k_mem); (case z97i => assumption); (case z97z => omega)); intro _ _ _ _ _ _)
        k_with "eval Name" => (k_here; (with_reducible show wpAny _ _ (eval (Expr.Name _ _) (envX _ _ _ _ _ _)) _ _ _); k_dflt (refine' nameX_F ?z98N ?z98c ?z98m ?z98d ?_ ?z98a ?z98b; (case z98a => rfl); (case z98b => rfl); (case z98N => k_asm); (case z98c => rfl); (case z98m => k_mem); (case z98d => k_asm); k_whole))
        k_with "exec If BoolOp" => (k_dflt (refine WStop.go ?_))
        k_steps
        unfold WStop
        rename Obj => oD
        rename Obj.data oD = _ => dD
        rename Fr _ _ _ _ => F6
        try clear N7
        try clear F7
        k_with_none
        k_with "LeaveT" => (k_dflt (refine' leaveT_ ?z77k1 ?z77k2 ?z77k3 ?_; (case z77k1 => k_asm); (case z77k2 => k_asm); (case z77k3 => first | assumption | exact KtsTurn.refl | exact KtsTurn.trans (by assumption) (by assumption)); intro _ _ _ _ _ _ _; (try dsimp only); (try k_fold)))
        k_with "callWith ref" => (k_here; k_dflt (refine' callWith_K ?z78k1 ?z78k2 ?_; (case z78k1 => k_asm); (case z78k2 => k_is); k_whole))
        k_with "call ref" => (k_here; k_dflt (refine' Con.use ?z79kC ?z79k1 ?z79k2 ?z79k3 ?z79k4 ?z79k5 ?z79kK ?z79kd ?z79ku ?_; (case z79k2 => k_asm); (case z79k4 => k_asm); (case z79kC => first | (refine' con_draw _ _ _ _ _ _ _ _ _ _ _ _ _ ?z79a1 ?z79a2 ?z79a3 ?z79a4 ?z79a5 ?z79a6 ?z79a7; (case z79a1 => k_updF); (case z79a2 => k_mem); (case z79a3 => assumption); (case z79a4 => assumption); (case z79a5 => assumption); (case z79a6 => omega); (case z79a7 => omega))); (case z79k1 => k_asm); (case z79k3 => k_asm); (case z79k5 => k_asm); (case z79kK => first | exact rfl | assumption); (case z79kd => ktr_room); (case z79ku => ktr_units); intro _ _ _ _ _ _ _ _ _ _; (try dsimp only); (try k_fold)))
        k_with "call ref" => (k_here; k_dflt (refine' Con.use ?z80kC ?z80k1 ?z80k2 ?z80k3 ?z80k4 ?z80k5 ?z80kK ?z80kd ?z80ku ?_; (case z80k2 => k_asm); (case z80k4 => k_asm); (case z80kC => first | (refine' con_fault _ _ _ _ _ _ _ _ ?z80a1 ?z80a2 ?z80a3 ?z80a4; (case z80a1 => k_mem); (case z80a2 => assumption); (case z80a3 => omega); (case z80a4 => omega))); (case z80k1 => k_asm); (case z80k3 => k_asm); (case z80k5 => k_asm); (case z80kK => first | exact rfl | assumption); (case z80kd => ktr_room); (case z80ku => ktr_units); intro _ _ _ _ _; (try dsimp only); (try k_fold)))
        k_with "call ref" => (k_here; k_dflt (refine' Con.use ?z81kC ?z81k1 ?z81k2 ?z81k3 ?z81k4 ?z81k5 ?z81kK ?z81kd ?z81ku ?_; (case z81k2 => k_asm); (case z81k4 => k_asm); (case z81kC => first | (refine' con_words _ _ _ _ _ _ ?z81a1 ?z81a2 ?z81a3; (case z81a1 => k_mem); (case z81a2 => assumption); (case z81a3 => omega))); (case z81k1 => k_asm); (case z81k3 => k_asm); (case z81k5 => k_asm); (case z81kK => first | exact rfl | assumption); (case z81kd => ktr_room); (case z81ku => ktr_units); intro _ _ _ _ _ _ _ _ _; (try dsimp only); (try k_fold)))
        k_with "binaryOp Mult ref int" => (k_here; k_dflt (refine' mul5 ?z82F ?z82N ?z82m ?_; (case z82F => k_asm); (case z82N => k_asm); (case z82m => k_mem)); intro _ _ _ _ _)
        k_with "call type:bytes" => (k_here; (with_reducible show wpAny _ _ (call (Value.type "bytes") [Value.ref _]) _ _ _); k_dflt (refine' KBa.make_K ?z83kbaF ?z83kbaN ?z83kbah ?z83kbal ?z83kbai ?z83kbar ?z83kban ?_; (case z83kbaF => k_asm); (case z83kbaN => k_asm); (case z83kbah => rfl); (case z83kbal => exact News.isList (by k_asm) (by k_mem)); (case z83kbai => first | assumption | exact .cons _ _ (.cons _ _ .nil)); (case z83kbar => assumption); (case z83kban => first | (show (2 : Nat) ≤ _; decide) | kba_size)); intro _ _ _ _ _ kbaIn; (have kbaS := KBa.sum_in kbaIn))
        k_with "call ref" => (k_here; k_dflt (refine' Con.use ?z84kC ?z84k1 ?z84k2 ?z84k3 ?z84k4 ?z84k5 ?z84kK ?z84kd ?z84ku ?_; (case z84k2 => k_asm); (case z84k4 => k_asm); (case z84kC => first | (refine' con_codes _ _ _ _ _ _ ?z84a1 ?z84a2 ?z84a3 ?z84a4; (case z84a1 => k_mem); (case z84a2 => assumption); (case z84a3 => omega); (case z84a4 => assumption))); (case z84k1 => k_asm); (case z84k3 => k_asm); (case z84k5 => k_asm); (case z84kK => first | exact rfl | assumption); (case z84kd => ktr_room); (case z84ku => ktr_units); intro _ _ _ _ _ _ _ _ _; (try dsimp only); (try k_fold)))
        k_with "call ref" => (k_here; k_dflt (refine' Con.use ?z85kC ?z85k1 ?z85k2 ?z85k3 ?z85k4 ?z85k5 ?z85kK ?z85kd ?z85ku ?_; (case z85k2 => k_asm); (case z85k4 => k_asm); (case z85kC => first | (refine' con_joined _ _ _ _ _ _ ?z85a1 ?z85a2 ?z85a3 ?z85a4; (case z85a1 => omega); (case z85a2 => omega); (case z85a3 => omega); (case z85a4 => omega))); (case z85k1 => k_asm); (case z85k3 => k_asm); (case z85k5 => k_asm); (case z85kK => first | exact rfl | assumption); (case z85kd => ktr_room); (case z85ku => ktr_units); intro _ _ _ _ _; (try dsimp only); (try k_fold)))
        k_with "call ref" => (k_here; k_dflt (refine' Con.use ?z86kC ?z86k1 ?z86k2 ?z86k3 ?z86k4 ?z86k5 ?z86kK ?z86kd ?z86ku ?_; (case z86k2 => k_asm); (case z86k4 => k_asm); (case z86kC => first | (refine' con_octets_be _ _ _ _ _ ?z86a1 ?z86a2; (case z86a1 => omega); (case z86a2 => omega))); (case z86k1 => k_asm); (case z86k3 => k_asm); (case z86k5 => k_asm); (case z86kK => first | exact rfl | assumption); (case z86kd => ktr_room); (case z86ku => ktr_units); intro _ _ _ _ _ _ _ _ _; (try dsimp only); (try k_fold)))
        k_with "call ref" => (k_here; k_dflt (refine' Con.use ?z87kC ?z87k1 ?z87k2 ?z87k3 ?z87k4 ?z87k5 ?z87kK ?z87kd ?z87ku ?_; (case z87k2 => k_asm); (case z87k4 => k_asm); (case z87kC => first | (refine' con_octets_le _ _ _ _ _ ?z87a1 ?z87a2; (case z87a1 => omega); (case z87a2 => omega))); (case z87k1 => k_asm); (case z87k3 => k_asm); (case z87k5 => k_asm); (case z87kK => first | exact rfl | assumption); (case z87kd => ktr_room); (case z87ku => ktr_units); intro _ _ _ _ _ _ _ _ _; (try dsimp only); (try k_fold)))
        k_with "call ref" => (k_here; k_dflt (refine' Con.use ?z88kC ?z88k1 ?z88k2 ?z88k3 ?z88k4 ?z88k5 ?z88kK ?z88kd ?z88ku ?_; (case z88k2 => k_asm); (case z88k4 => k_asm); (case z88kC => first | (refine' con_unit_be _ _ _ _ _ _ _ ?z88a1 ?z88a2; (case z88a1 => assumption); (case z88a2 => first | assumption | rfl))); (case z88k1 => k_asm); (case z88k3 => k_asm); (case z88k5 => k_asm); (case z88kK => first | exact rfl | assumption); (case z88kd => ktr_room); (case z88ku => ktr_units); intro _ _ _ _ _; (try dsimp only); (try k_fold)))
        k_with "call ref" => (k_here; k_dflt (refine' Con.use ?z89kC ?z89k1 ?z89k2 ?z89k3 ?z89k4 ?z89k5 ?z89kK ?z89kd ?z89ku ?_; (case z89k2 => k_asm); (case z89k4 => k_asm); (case z89kC => first | (refine' con_unit_le _ _ _ _ _ _ _ ?z89a1 ?z89a2; (case z89a1 => assumption); (case z89a2 => first | assumption | rfl))); (case z89k1 => k_asm); (case z89k3 => k_asm); (case z89k5 => k_asm); (case z89kK => first | exact rfl | assumption); (case z89kd => ktr_room); (case z89ku => ktr_units); intro _ _ _ _ _; (try dsimp only); (try k_fold)))
        k_with "call ref" => (k_here; k_dflt (refine' Con.use ?z90kC ?z90k1 ?z90k2 ?z90k3 ?z90k4 ?z90k5 ?z90kK ?z90kd ?z90ku ?_; (case z90k2 => k_asm); (case z90k4 => k_asm); (case z90kC => first | (refine' con_mended2 _ _ _ _ _ _ _ ?z90a1 ?z90a2 ?z90a3 ?z90a4; (case z90a1 => k_mem); (case z90a2 => assumption); (case z90a3 => omega); (case z90a4 => first | exact mended_twice _ | rfl))); (case z90k1 => k_asm); (case z90k3 => k_asm); (case z90k5 => k_asm); (case z90kK => first | exact rfl | assumption); (case z90kd => ktr_room); (case z90ku => ktr_units); intro _ _ _ _ _ _ _ _ _; (try dsimp only); (try k_fold)))
        k_with "compareOp NotEq ref ref" => (k_here; (with_reducible show wpAny _ _ (compareOp CmpOp.NotEq (Value.ref _) (Value.ref _)) _ _ _); k_dflt (refine ne_same (by is_list) (by is_list) (by assumption) (by assumption) (by ke_room) ?_))
        k_with "compareOp Eq bytes bytes" => (k_dflt (refine eq_bytesK (by kba_ints) (by kba_ints) ?_))
        k_with "compareOp NotEq bytes bytes" => (k_dflt (refine ne_bytesK (by kba_ints) (by kba_ints) ?_))
        k_with "compareOp NotEq ref ref" => (k_here; (with_reducible show wpAny _ _ (compareOp CmpOp.NotEq (Value.ref _) (Value.ref _)) _ _ _); k_dflt (refine' ne_given ?z94gN ?z94g1 ?z94g2 ?z94g3 ?z94g4 ?z94g5 ?z94g6 ?z94gu ?_; (case z94gN => k_asm); (case z94g1 => k_mem); (case z94g4 => k_mem); (case z94g2 => k_mem); (case z94g3 => assumption); (case z94g5 => k_mem); (case z94g6 => assumption); (case z94gu => ke_room); k_whole))
        k_with "call ref" => (k_here; k_dflt (refine' ConX.use ?z95kC ?z95k1 ?z95k2 ?z95k3 ?z95k4 ?z95k5 ?z95kK ?z95kd ?z95ku ?_ ?_; (case z95k2 => k_asm); (case z95k4 => k_asm); (case z95kC => first | (refine' con_text _ _ _ _ _ _ ?z95a1 ?z95a2 ?z95a3; (case z95a1 => k_mem); (case z95a2 => assumption); (case z95a3 => omega))); (case z95k1 => k_asm); (case z95k3 => k_asm); (case z95k5 => k_asm); (case z95kK => first | exact rfl | assumption); (case z95kd => ktr_room); (case z95ku => ktr_units); intro _ _ _ _ _ _ _ _ _ _; (try dsimp only); (try k_fold); rotate_left; (refine ⟨?_, ?_⟩); (try dsimp only); rotate_right))
        k_with "call ref" => (k_here; k_dflt (refine' ConX.use ?z96kC ?z96k1 ?z96k2 ?z96k3 ?z96k4 ?z96k5 ?z96kK ?z96kd ?z96ku ?_ ?_; (case z96k2 => k_asm); (case z96k4 => k_asm); (case z96kC => first | (refine' con_units2 _ _ _ _ _ _ _ ?z96a1 ?z96a2 ?z96a3 ?z96a4; (case z96a1 => k_mem); (case z96a2 => assumption); (case z96a3 => omega); (case z96a4 => assumption))); (case z96k1 => k_asm); (case z96k3 => k_asm); (case z96k5 => k_asm); (case z96kK => first | exact rfl | assumption); (case z96kd => ktr_room); (case z96ku => ktr_units); intro _ _ _ _ _ _ h9 tk9 _ _; (try dsimp only); (try k_fold); rotate_left; intro _ _ _ _ _ _ _ _ _ _ _ _; (try dsimp only); rotate_right))
        k_with "call type:list" => (k_here; (with_reducible show wpAny _ _ (call (Value.type _) [Value.ref _]) _ _ _); k_dflt (refine' list_copyI ?z97F ?z97N ?z97m ?z97i ?z97z ?_; (case z97F => k_asm); (case z97N => k_asm); (case z97m => k_mem); (case z97i => assumption); (case z97z => omega)); intro _ _ _ _ _ _)
        k_with "eval Name" => (k_here; (with_reducible show wpAny _ _ (eval (Expr.Name _ _) (envX _ _ _ _ _ _)) _ _ _); k_dflt (refine' nameX_F ?z98N ?z98c ?z98m ?z98d ?_ ?z98a ?z98b; (case z98a => rfl); (case z98b => rfl); (case z98N => k_asm); (case z98c => rfl); (case z98m => k_mem); (case z98d => k_asm); k_whole))
        refine wpAny_mono (Q := fun f s' => StU g' L' [Str.ofString "faulty", Str.ofString "kept"] ((D4, lst ys) :: (D2, lst zs) :: (L' + 1 + 1 + 1, oD) :: (L' + 1 + 1, oU) :: (L' + 1, oc3) :: (253, tabObj #[]) :: (258, tabObj #[]) :: (TP, listOf [Value.ref TL, .int p2 t2].toArray n2) :: news) s f s') ?first ?rest fun _ _ x => x
        case first =>
          k_steps
          exact ⟨rfl, _, _, _, rfl, (by k_asm), (by walk_at "kp"), news_sub (by k_asm) (sub_app (x := [_, _, _, _, _]))⟩
        case rest =>
          rintro f s' ⟨rfl, h6, tk6, m6, rfl, F6, hkp6, N6⟩
          obtain ⟨x1, x2, rfl⟩ := hkp6.shape2
          clear hkp6
          have hokD : ∀ i, i < (mendedL us).length → faultS (mendedL us) i = "" := fun i hi => mended_ok us i (by rwa [mended_len] at hi)
          have CH5 : CodeHd g' 255 253 := hS.2.keeps B'.stays
          k_with_none
          k_with "LeaveT" => (k_dflt (refine' leaveT_ ?z77k1 ?z77k2 ?z77k3 ?_; (case z77k1 => k_asm); (case z77k2 => k_asm); (case z77k3 => first | assumption | exact KtsTurn.refl | exact KtsTurn.trans (by assumption) (by assumption)); intro _ _ _ _ _ _ _; (try dsimp only); (try k_fold)))
          k_with "callWith ref" => (k_here; k_dflt (refine' callWith_K ?z78k1 ?z78k2 ?_; (case z78k1 => k_asm); (case z78k2 => k_is); k_whole))
          k_with "call ref" => (k_here; k_dflt (refine' Con.use ?z79kC ?z79k1 ?z79k2 ?z79k3 ?z79k4 ?z79k5 ?z79kK ?z79kd ?z79ku ?_; (case z79k2 => k_asm); (case z79k4 => k_asm); (case z79kC => first | (refine' con_draw _ _ _ _ _ _ _ _ _ _ _ _ _ ?z79a1 ?z79a2 ?z79a3 ?z79a4 ?z79a5 ?z79a6 ?z79a7; (case z79a1 => k_updF); (case z79a2 => k_mem); (case z79a3 => assumption); (case z79a4 => assumption); (case z79a5 => assumption); (case z79a6 => omega); (case z79a7 => omega))); (case z79k1 => k_asm); (case z79k3 => k_asm); (case z79k5 => k_asm); (case z79kK => first | exact rfl | assumption); (case z79kd => ktr_room); (case z79ku => ktr_units); intro _ _ _ _ _ _ _ _ _ _; (try dsimp only); (try k_fold)))
          k_with "call ref" => (k_here; k_dflt (refine' Con.use ?z80kC ?z80k1 ?z80k2 ?z80k3 ?z80k4 ?z80k5 ?z80kK ?z80kd ?z80ku ?_; (case z80k2 => k_asm); (case z80k4 => k_asm); (case z80kC => first | (refine' con_fault _ _ _ _ _ _ _ _ ?z80a1 ?z80a2 ?z80a3 ?z80a4; (case z80a1 => k_mem); (case z80a2 => assumption); (case z80a3 => omega); (case z80a4 => omega))); (case z80k1 => k_asm); (case z80k3 => k_asm); (case z80k5 => k_asm); (case z80kK => first | exact rfl | assumption); (case z80kd => ktr_room); (case z80ku => ktr_units); intro _ _ _ _ _; (try dsimp only); (try k_fold)))
          k_with "call ref" => (k_here; k_dflt (refine' Con.use ?z81kC ?z81k1 ?z81k2 ?z81k3 ?z81k4 ?z81k5 ?z81kK ?z81kd ?z81ku ?_; (case z81k2 => k_asm); (case z81k4 => k_asm); (case z81kC => first | (refine' con_words _ _ _ _ _ _ ?z81a1 ?z81a2 ?z81a3; (case z81a1 => k_mem); (case z81a2 => assumption); (case z81a3 => omega))); (case z81k1 => k_asm); (case z81k3 => k_asm); (case z81k5 => k_asm); (case z81kK => first | exact rfl | assumption); (case z81kd => ktr_room); (case z81ku => ktr_units); intro _ _ _ _ _ _ _ _ _; (try dsimp only); (try k_fold)))
          k_with "binaryOp Mult ref int" => (k_here; k_dflt (refine' mul5 ?z82F ?z82N ?z82m ?_; (case z82F => k_asm); (case z82N => k_asm); (case z82m => k_mem)); intro _ _ _ _ _)
          k_with "call type:bytes" => (k_here; (with_reducible show wpAny _ _ (call (Value.type "bytes") [Value.ref _]) _ _ _); k_dflt (refine' KBa.make_K ?z83kbaF ?z83kbaN ?z83kbah ?z83kbal ?z83kbai ?z83kbar ?z83kban ?_; (case z83kbaF => k_asm); (case z83kbaN => k_asm); (case z83kbah => rfl); (case z83kbal => exact News.isList (by k_asm) (by k_mem)); (case z83kbai => first | assumption | exact .cons _ _ (.cons _ _ .nil)); (case z83kbar => assumption); (case z83kban => first | (show (2 : Nat) ≤ _; decide) | kba_size)); intro _ _ _ _ _ kbaIn; (have kbaS := KBa.sum_in kbaIn))
          k_with "call ref" => (k_here; k_dflt (refine' Con.use ?z84kC ?z84k1 ?z84k2 ?z84k3 ?z84k4 ?z84k5 ?z84kK ?z84kd ?z84ku ?_; (case z84k2 => k_asm); (case z84k4 => k_asm); (case z84kC => first | (refine' con_codes _ _ _ _ _ _ ?z84a1 ?z84a2 ?z84a3 ?z84a4; (case z84a1 => k_mem); (case z84a2 => assumption); (case z84a3 => omega); (case z84a4 => assumption))); (case z84k1 => k_asm); (case z84k3 => k_asm); (case z84k5 => k_asm); (case z84kK => first | exact rfl | assumption); (case z84kd => ktr_room); (case z84ku => ktr_units); intro _ _ _ _ _ _ _ _ _; (try dsimp only); (try k_fold)))
          k_with "call ref" => (k_here; k_dflt (refine' Con.use ?z85kC ?z85k1 ?z85k2 ?z85k3 ?z85k4 ?z85k5 ?z85kK ?z85kd ?z85ku ?_; (case z85k2 => k_asm); (case z85k4 => k_asm); (case z85kC => first | (refine' con_joined _ _ _ _ _ _ ?z85a1 ?z85a2 ?z85a3 ?z85a4; (case z85a1 => omega); (case z85a2 => omega); (case z85a3 => omega); (case z85a4 => omega))); (case z85k1 => k_asm); (case z85k3 => k_asm); (case z85k5 => k_asm); (case z85kK => first | exact rfl | assumption); (case z85kd => ktr_room); (case z85ku => ktr_units); intro _ _ _ _ _; (try dsimp only); (try k_fold)))
          k_with "call ref" => (k_here; k_dflt (refine' Con.use ?z86kC ?z86k1 ?z86k2 ?z86k3 ?z86k4 ?z86k5 ?z86kK ?z86kd ?z86ku ?_; (case z86k2 => k_asm); (case z86k4 => k_asm); (case z86kC => first | (refine' con_octets_be _ _ _ _ _ ?z86a1 ?z86a2; (case z86a1 => omega); (case z86a2 => omega))); (case z86k1 => k_asm); (case z86k3 => k_asm); (case z86k5 => k_asm); (case z86kK => first | exact rfl | assumption); (case z86kd => ktr_room); (case z86ku => ktr_units); intro _ _ _ _ _ _ _ _ _; (try dsimp only); (try k_fold)))
          k_with "call ref" => (k_here; k_dflt (refine' Con.use ?z87kC ?z87k1 ?z87k2 ?z87k3 ?z87k4 ?z87k5 ?z87kK ?z87kd ?z87ku ?_; (case z87k2 => k_asm); (case z87k4 => k_asm); (case z87kC => first | (refine' con_octets_le _ _ _ _ _ ?z87a1 ?z87a2; (case z87a1 => omega); (case z87a2 => omega))); (case z87k1 => k_asm); (case z87k3 => k_asm); (case z87k5 => k_asm); (case z87kK => first | exact rfl | assumption); (case z87kd => ktr_room); (case z87ku => ktr_units); intro _ _ _ _ _ _ _ _ _; (try dsimp only); (try k_fold)))
          k_with "call ref" => (k_here; k_dflt (refine' Con.use ?z88kC ?z88k1 ?z88k2 ?z88k3 ?z88k4 ?z88k5 ?z88kK ?z88kd ?z88ku ?_; (case z88k2 => k_asm); (case z88k4 => k_asm); (case z88kC => first | (refine' con_unit_be _ _ _ _ _ _ _ ?z88a1 ?z88a2; (case z88a1 => assumption); (case z88a2 => first | assumption | rfl))); (case z88k1 => k_asm); (case z88k3 => k_asm); (case z88k5 => k_asm); (case z88kK => first | exact rfl | assumption); (case z88kd => ktr_room); (case z88ku => ktr_units); intro _ _ _ _ _; (try dsimp only); (try k_fold)))
          k_with "call ref" => (k_here; k_dflt (refine' Con.use ?z89kC ?z89k1 ?z89k2 ?z89k3 ?z89k4 ?z89k5 ?z89kK ?z89kd ?z89ku ?_; (case z89k2 => k_asm); (case z89k4 => k_asm); (case z89kC => first | (refine' con_unit_le _ _ _ _ _ _ _ ?z89a1 ?z89a2; (case z89a1 => assumption); (case z89a2 => first | assumption | rfl))); (case z89k1 => k_asm); (case z89k3 => k_asm); (case z89k5 => k_asm); (case z89kK => first | exact rfl | assumption); (case z89kd => ktr_room); (case z89ku => ktr_units); intro _ _ _ _ _; (try dsimp only); (try k_fold)))
          k_with "call ref" => (k_here; k_dflt (refine' Con.use ?z90kC ?z90k1 ?z90k2 ?z90k3 ?z90k4 ?z90k5 ?z90kK ?z90kd ?z90ku ?_; (case z90k2 => k_asm); (case z90k4 => k_asm); (case z90kC => first | (refine' con_mended2 _ _ _ _ _ _ _ ?z90a1 ?z90a2 ?z90a3 ?z90a4; (case z90a1 => k_mem); (case z90a2 => assumption); (case z90a3 => omega); (case z90a4 => first | exact mended_twice _ | rfl))); (case z90k1 => k_asm); (case z90k3 => k_asm); (case z90k5 => k_asm); (case z90kK => first | exact rfl | assumption); (case z90kd => ktr_room); (case z90ku => ktr_units); intro _ _ _ _ _ _ _ _ _; (try dsimp only); (try k_fold)))
          k_with "compareOp NotEq ref ref" => (k_here; (with_reducible show wpAny _ _ (compareOp CmpOp.NotEq (Value.ref _) (Value.ref _)) _ _ _); k_dflt (refine ne_same (by is_list) (by is_list) (by assumption) (by assumption) (by ke_room) ?_))
          k_with "compareOp Eq bytes bytes" => (k_dflt (refine eq_bytesK (by kba_ints) (by kba_ints) ?_))
          k_with "compareOp NotEq bytes bytes" => (k_dflt (refine ne_bytesK (by kba_ints) (by kba_ints) ?_))
          k_with "compareOp NotEq ref ref" => (k_here; (with_reducible show wpAny _ _ (compareOp CmpOp.NotEq (Value.ref _) (Value.ref _)) _ _ _); k_dflt (refine' ne_given ?z94gN ?z94g1 ?z94g2 ?z94g3 ?z94g4 ?z94g5 ?z94g6 ?z94gu ?_; (case z94gN => k_asm); (case z94g1 => k_mem); (case z94g4 => k_mem); (case z94g2 => k_mem); (case z94g3 => assumption); (case z94g5 => k_mem); (case z94g6 => assumption); (case z94gu => ke_room); k_whole))
          k_with "call ref" => (k_here; k_dflt (refine' ConX.use ?z95kC ?z95k1 ?z95k2 ?z95k3 ?z95k4 ?z95k5 ?z95kK ?z95kd ?z95ku ?_ ?_; (case z95k2 => k_asm); (case z95k4 => k_asm); (case z95kC => first | (refine' con_text _ _ _ _ _ _ ?z95a1 ?z95a2 ?z95a3; (case z95a1 => k_mem); (case z95a2 => assumption); (case z95a3 => omega))); (case z95k1 => k_asm); (case z95k3 => k_asm); (case z95k5 => k_asm); (case z95kK => first | exact rfl | assumption); (case z95kd => ktr_room); (case z95ku => ktr_units); intro _ _ _ _ _ _ _ _ _ _; (try dsimp only); (try k_fold); rotate_left; (refine ⟨?_, ?_⟩); (try dsimp only); rotate_right))
          k_with "call ref" => (k_here; k_dflt (refine' ConX.use ?z96kC ?z96k1 ?z96k2 ?z96k3 ?z96k4 ?z96k5 ?z96kK ?z96kd ?z96ku ?_ ?_; (case z96k2 => k_asm); (case z96k4 => k_asm); (case z96kC => first | (refine' con_units2 _ _ _ _ _ _ _ ?z96a1 ?z96a2 ?z96a3 ?z96a4; (case z96a1 => k_mem); (case z96a2 => assumption); (case z96a3 => omega); (case z96a4 => assumption))); (case z96k1 => k_asm); (case z96k3 => k_asm); (case z96k5 => k_asm); (case z96kK => first | exact rfl | assumption); (case z96kd => ktr_room); (case z96ku => ktr_units); intro _ _ _ _ _ _ h9 tk9 _ _; (try dsimp only); (try k_fold); rotate_left; intro _ _ _ _ _ _ _ _ _ _ _ _; (try dsimp only); rotate_right))
          k_with "call type:list" => (k_here; (with_reducible show wpAny _ _ (call (Value.type _) [Value.ref _]) _ _ _); k_dflt (refine' list_copyI ?z97F ?z97N ?z97m ?z97i ?z97z ?_; (case z97F => k_asm); (case z97N => k_asm); (case z97m => k_mem); (case z97i => assumption); (case z97z => omega)); intro _ _ _ _ _ _)
          k_with "eval Name" => (k_here; (with_reducible show wpAny _ _ (eval (Expr.Name _ _) (envX _ _ _ _ _ _)) _ _ _); k_dflt (refine' nameX_F ?z98N ?z98c ?z98m ?z98d ?_ ?z98a ?z98b; (case z98a => rfl); (case z98b => rfl); (case z98N => k_asm); (case z98c => rfl); (case z98m => k_mem); (case z98d => k_asm); k_whole))
          k_with "exec If BoolOp" => (k_dflt (refine WStop.go ?_))
          k_steps
          unfold WStop
          k_with_none
          k_with "LeaveT" => (k_dflt (refine' leaveT_ ?z77k1 ?z77k2 ?z77k3 ?_; (case z77k1 => k_asm); (case z77k2 => k_asm); (case z77k3 => first | assumption | exact KtsTurn.refl | exact KtsTurn.trans (by assumption) (by assumption)); intro _ _ _ _ _ _ _; (try dsimp only); (try k_fold)))
          k_with "callWith ref" => (k_here; k_dflt (refine' callWith_K ?z78k1 ?z78k2 ?_; (case z78k1 => k_asm); (case z78k2 => k_is); k_whole))
          k_with "call ref" => (k_here; k_dflt (refine' Con.use ?z79kC ?z79k1 ?z79k2 ?z79k3 ?z79k4 ?z79k5 ?z79kK ?z79kd ?z79ku ?_; (case z79k2 => k_asm); (case z79k4 => k_asm); (case z79kC => first | (refine' con_draw _ _ _ _ _ _ _ _ _ _ _ _ _ ?z79a1 ?z79a2 ?z79a3 ?z79a4 ?z79a5 ?z79a6 ?z79a7; (case z79a1 => k_updF); (case z79a2 => k_mem); (case z79a3 => assumption); (case z79a4 => assumption); (case z79a5 => assumption); (case z79a6 => omega); (case z79a7 => omega))); (case z79k1 => k_asm); (case z79k3 => k_asm); (case z79k5 => k_asm); (case z79kK => first | exact rfl | assumption); (case z79kd => ktr_room); (case z79ku => ktr_units); intro _ _ _ _ _ _ _ _ _ _; (try dsimp only); (try k_fold)))
          k_with "call ref" => (k_here; k_dflt (refine' Con.use ?z80kC ?z80k1 ?z80k2 ?z80k3 ?z80k4 ?z80k5 ?z80kK ?z80kd ?z80ku ?_; (case z80k2 => k_asm); (case z80k4 => k_asm); (case z80kC => first | (refine' con_fault _ _ _ _ _ _ _ _ ?z80a1 ?z80a2 ?z80a3 ?z80a4; (case z80a1 => k_mem); (case z80a2 => assumption); (case z80a3 => omega); (case z80a4 => omega))); (case z80k1 => k_asm); (case z80k3 => k_asm); (case z80k5 => k_asm); (case z80kK => first | exact rfl | assumption); (case z80kd => ktr_room); (case z80ku => ktr_units); intro _ _ _ _ _; (try dsimp only); (try k_fold)))
          k_with "call ref" => (k_here; k_dflt (refine' Con.use ?z81kC ?z81k1 ?z81k2 ?z81k3 ?z81k4 ?z81k5 ?z81kK ?z81kd ?z81ku ?_; (case z81k2 => k_asm); (case z81k4 => k_asm); (case z81kC => first | (refine' con_words _ _ _ _ _ _ ?z81a1 ?z81a2 ?z81a3; (case z81a1 => k_mem); (case z81a2 => assumption); (case z81a3 => omega))); (case z81k1 => k_asm); (case z81k3 => k_asm); (case z81k5 => k_asm); (case z81kK => first | exact rfl | assumption); (case z81kd => ktr_room); (case z81ku => ktr_units); intro _ _ _ _ _ _ _ _ _; (try dsimp only); (try k_fold)))
          k_with "binaryOp Mult ref int" => (k_here; k_dflt (refine' mul5 ?z82F ?z82N ?z82m ?_; (case z82F => k_asm); (case z82N => k_asm); (case z82m => k_mem)); intro _ _ _ _ _)
          k_with "call type:bytes" => (k_here; (with_reducible show wpAny _ _ (call (Value.type "bytes") [Value.ref _]) _ _ _); k_dflt (refine' KBa.make_K ?z83kbaF ?z83kbaN ?z83kbah ?z83kbal ?z83kbai ?z83kbar ?z83kban ?_; (case z83kbaF => k_asm); (case z83kbaN => k_asm); (case z83kbah => rfl); (case z83kbal => exact News.isList (by k_asm) (by k_mem)); (case z83kbai => first | assumption | exact .cons _ _ (.cons _ _ .nil)); (case z83kbar => assumption); (case z83kban => first | (show (2 : Nat) ≤ _; decide) | kba_size)); intro _ _ _ _ _ kbaIn; (have kbaS := KBa.sum_in kbaIn))
          k_with "call ref" => (k_here; k_dflt (refine' Con.use ?z84kC ?z84k1 ?z84k2 ?z84k3 ?z84k4 ?z84k5 ?z84kK ?z84kd ?z84ku ?_; (case z84k2 => k_asm); (case z84k4 => k_asm); (case z84kC => first | (refine' con_codes _ _ _ _ _ _ ?z84a1 ?z84a2 ?z84a3 ?z84a4; (case z84a1 => k_mem); (case z84a2 => assumption); (case z84a3 => omega); (case z84a4 => assumption))); (case z84k1 => k_asm); (case z84k3 => k_asm); (case z84k5 => k_asm); (case z84kK => first | exact rfl | assumption); (case z84kd => ktr_room); (case z84ku => ktr_units); intro _ _ _ _ _ _ _ _ _; (try dsimp only); (try k_fold)))
          k_with "call ref" => (k_here; k_dflt (refine' Con.use ?z85kC ?z85k1 ?z85k2 ?z85k3 ?z85k4 ?z85k5 ?z85kK ?z85kd ?z85ku ?_; (case z85k2 => k_asm); (case z85k4 => k_asm); (case z85kC => first | (refine' con_joined _ _ _ _ _ _ ?z85a1 ?z85a2 ?z85a3 ?z85a4; (case z85a1 => omega); (case z85a2 => omega); (case z85a3 => omega); (case z85a4 => omega))); (case z85k1 => k_asm); (case z85k3 => k_asm); (case z85k5 => k_asm); (case z85kK => first | exact rfl | assumption); (case z85kd => ktr_room); (case z85ku => ktr_units); intro _ _ _ _ _; (try dsimp only); (try k_fold)))
          k_with "call ref" => (k_here; k_dflt (refine' Con.use ?z86kC ?z86k1 ?z86k2 ?z86k3 ?z86k4 ?z86k5 ?z86kK ?z86kd ?z86ku ?_; (case z86k2 => k_asm); (case z86k4 => k_asm); (case z86kC => first | (refine' con_octets_be _ _ _ _ _ ?z86a1 ?z86a2; (case z86a1 => omega); (case z86a2 => omega))); (case z86k1 => k_asm); (case z86k3 => k_asm); (case z86k5 => k_asm); (case z86kK => first | exact rfl | assumption); (case z86kd => ktr_room); (case z86ku => ktr_units); intro _ _ _ _ _ _ _ _ _; (try dsimp only); (try k_fold)))
          k_with "call ref" => (k_here; k_dflt (refine' Con.use ?z87kC ?z87k1 ?z87k2 ?z87k3 ?z87k4 ?z87k5 ?z87kK ?z87kd ?z87ku ?_; (case z87k2 => k_asm); (case z87k4 => k_asm); (case z87kC => first | (refine' con_octets_le _ _ _ _ _ ?z87a1 ?z87a2; (case z87a1 => omega); (case z87a2 => omega))); (case z87k1 => k_asm); (case z87k3 => k_asm); (case z87k5 => k_asm); (case z87kK => first | exact rfl | assumption); (case z87kd => ktr_room); (case z87ku => ktr_units); intro _ _ _ _ _ _ _ _ _; (try dsimp only); (try k_fold)))
          k_with "call ref" => (k_here; k_dflt (refine' Con.use ?z88kC ?z88k1 ?z88k2 ?z88k3 ?z88k4 ?z88k5 ?z88kK ?z88kd ?z88ku ?_; (case z88k2 => k_asm); (case z88k4 => k_asm); (case z88kC => first | (refine' con_unit_be _ _ _ _ _ _ _ ?z88a1 ?z88a2; (case z88a1 => assumption); (case z88a2 => first | assumption | rfl))); (case z88k1 => k_asm); (case z88k3 => k_asm); (case z88k5 => k_asm); (case z88kK => first | exact rfl | assumption); (case z88kd => ktr_room); (case z88ku => ktr_units); intro _ _ _ _ _; (try dsimp only); (try k_fold)))
          k_with "call ref" => (k_here; k_dflt (refine' Con.use ?z89kC ?z89k1 ?z89k2 ?z89k3 ?z89k4 ?z89k5 ?z89kK ?z89kd ?z89ku ?_; (case z89k2 => k_asm); (case z89k4 => k_asm); (case z89kC => first | (refine' con_unit_le _ _ _ _ _ _ _ ?z89a1 ?z89a2; (case z89a1 => assumption); (case z89a2 => first | assumption | rfl))); (case z89k1 => k_asm); (case z89k3 => k_asm); (case z89k5 => k_asm); (case z89kK => first | exact rfl | assumption); (case z89kd => ktr_room); (case z89ku => ktr_units); intro _ _ _ _ _; (try dsimp only); (try k_fold)))
          k_with "call ref" => (k_here; k_dflt (refine' Con.use ?z90kC ?z90k1 ?z90k2 ?z90k3 ?z90k4 ?z90k5 ?z90kK ?z90kd ?z90ku ?_; (case z90k2 => k_asm); (case z90k4 => k_asm); (case z90kC => first | (refine' con_mended2 _ _ _ _ _ _ _ ?z90a1 ?z90a2 ?z90a3 ?z90a4; (case z90a1 => k_mem); (case z90a2 => assumption); (case z90a3 => omega); (case z90a4 => first | exact mended_twice _ | rfl))); (case z90k1 => k_asm); (case z90k3 => k_asm); (case z90k5 => k_asm); (case z90kK => first | exact rfl | assumption); (case z90kd => ktr_room); (case z90ku => ktr_units); intro _ _ _ _ _ _ _ _ _; (try dsimp only); (try k_fold)))
          k_with "compareOp NotEq ref ref" => (k_here; (with_reducible show wpAny _ _ (compareOp CmpOp.NotEq (Value.ref _) (Value.ref _)) _ _ _); k_dflt (refine ne_same (by is_list) (by is_list) (by assumption) (by assumption) (by ke_room) ?_))
          k_with "compareOp Eq bytes bytes" => (k_dflt (refine eq_bytesK (by kba_ints) (by kba_ints) ?_))
          k_with "compareOp NotEq bytes bytes" => (k_dflt (refine ne_bytesK (by kba_ints) (by kba_ints) ?_))
          k_with "compareOp NotEq ref ref" => (k_here; (with_reducible show wpAny _ _ (compareOp CmpOp.NotEq (Value.ref _) (Value.ref _)) _ _ _); k_dflt (refine' ne_given ?z94gN ?z94g1 ?z94g2 ?z94g3 ?z94g4 ?z94g5 ?z94g6 ?z94gu ?_; (case z94gN => k_asm); (case z94g1 => k_mem); (case z94g4 => k_mem); (case z94g2 => k_mem); (case z94g3 => assumption); (case z94g5 => k_mem); (case z94g6 => assumption); (case z94gu => ke_room); k_whole))
          k_with "call ref" => (k_here; k_dflt (refine' ConX.use ?z95kC ?z95k1 ?z95k2 ?z95k3 ?z95k4 ?z95k5 ?z95kK ?z95kd ?z95ku ?_ ?_; (case z95k2 => k_asm); (case z95k4 => k_asm); (case z95kC => first | (refine' con_text _ _ _ _ _ _ ?z95a1 ?z95a2 ?z95a3; (case z95a1 => k_mem); (case z95a2 => assumption); (case z95a3 => omega))); (case z95k1 => k_asm); (case z95k3 => k_asm); (case z95k5 => k_asm); (case z95kK => first | exact rfl | assumption); (case z95kd => ktr_room); (case z95ku => ktr_units); intro _ _ _ _ _ _ _ _ _ _; (try dsimp only); (try k_fold); rotate_left; (refine ⟨?_, ?_⟩); (try dsimp only); rotate_right))
          k_with "call ref" => (k_here; k_dflt (refine' ConX.use ?z96kC ?z96k1 ?z96k2 ?z96k3 ?z96k4 ?z96k5 ?z96kK ?z96kd ?z96ku ?_ ?_; (case z96k2 => k_asm); (case z96k4 => k_asm); (case z96kC => first | (refine' con_units2 _ _ _ _ _ _ _ ?z96a1 ?z96a2 ?z96a3 ?z96a4; (case z96a1 => k_mem); (case z96a2 => assumption); (case z96a3 => omega); (case z96a4 => assumption))); (case z96k1 => k_asm); (case z96k3 => k_asm); (case z96k5 => k_asm); (case z96kK => first | exact rfl | assumption); (case z96kd => ktr_room); (case z96ku => ktr_units); intro _ _ _ _ _ _ h9 tk9 _ _; (try dsimp only); (try k_fold); rotate_left; intro _ _ _ _ _ _ _ _ _ _ _ _; (try dsimp only); rotate_right))
          k_with "call type:list" => (k_here; (with_reducible show wpAny _ _ (call (Value.type _) [Value.ref _]) _ _ _); k_dflt (refine' list_copyI ?z97F ?z97N ?z97m ?z97i ?z97z ?_; (case z97F => k_asm); (case z97N => k_asm); (case z97m => k_mem); (case z97i => assumption); (case z97z => omega)); intro _ _ _ _ _ _)
          k_with "eval Name" => (k_here; (with_reducible show wpAny _ _ (eval (Expr.Name _ _) (envX _ _ _ _ _ _)) _ _ _); k_dflt (refine' nameX_F ?z98N ?z98c ?z98m ?z98d ?_ ?z98a ?z98b; (case z98a => rfl); (case z98b => rfl); (case z98N => k_asm); (case z98c => rfl); (case z98m => k_mem); (case z98d => k_asm); k_whole))
          rename IntsAre _ (codesW (mendedL us)) => hcw
          rename ∀ p ∈ (D4, _) :: _, _ => hlC
          have hC1 : @LT.lt Nat instLTNat D4 _ := hlC _ (.head _)
          have hC2 : @LT.lt Nat instLTNat D2 _ := hlC _ (.tail _ (.head _))
          have hC3 : @LT.lt Nat instLTNat (L' + 1 + 1 + 1) _ := hlC _ (.tail _ (.tail _ (.head _)))
          have hC4 : @LT.lt Nat instLTNat 253 _ := hlC _ (.tail _ (.tail _ (.tail _ (.tail _ (.tail _ (.head _))))))
          have hC5 : @LT.lt Nat instLTNat 258 _ := hlC _ (.tail _ (.tail _ (.tail _ (.tail _ (.tail _ (.tail _ (.head _)))))))
          have hC6 : @LT.lt Nat instLTNat TP _ := hlC _ (.tail _ (.tail _ (.tail _ (.tail _ (.tail _ (.tail _ (.tail _ (.head _))))))))
          have hnC : ∀ p ∈ news, p.1 < _ := fun p hp => hlC p (.tail _ (.tail _ (.tail _ (.tail _ (.tail _ (.tail _ (.tail _ (.tail _ hp))))))))
          clear hlC
          have hcl9 := codes_len (mendedL us).length (mendedL us) (Nat.le_refl _)
          obtain ⟨hue, hscal⟩ := units_codes (us := mendedL us) (mended_in hus) hokD
          have hfn : List.find? (fun c => !isScal c) (codesW (mendedL us)) = none := List.find?_eq_none.mpr fun c hc => by rw [hscal c hc]; decide
          refine wpAny_mono (Q := fun f s' => StV (fun g2 => KtsTurn (frs (envX cn cs L a ccd cl :: outer)) g' g2 ∧ Below (ktrTop dp ux gd cn cs L a ccd cl outer) base (envX cn cs L a ccd cl :: outer) g2 ∧ (hdT.heap_1 w.params).In g2 ∧ Top topProg loose mean mg mb g2) L' [Str.ofString "faulty", Str.ofString "kept"] (codesW (mendedL us)) (fun T => (D4, lst ys) :: (D2, lst zs) :: (L' + 1 + 1 + 1, oD) :: (L' + 1 + 1, oU) :: (L' + 1, oc3) :: (253, tabObj T) :: (258, tabObj #[]) :: (TP, listOf [Value.ref TL, .int p2 t2].toArray n2) :: news) s f s') ?first ?rest fun _ _ x => x
          case rest =>
            rintro f s' ⟨rfl, g5, h5, tk5, m5, T5, Cd, vC, nC, rfl, ⟨K5, B5, X5, P5⟩, F5, hkp5, hcw5, N5, hCd⟩
            obtain ⟨x3, x4, rfl⟩ := hkp5.shape2
            revert XB K5 B5 X5 P5 F5 N5
            (repeat (rename News _ _ _ _ => xx9; clear xx9)); (repeat (rename Fr _ _ _ _ => xx9; clear xx9)); (repeat (rename Frag.In _ _ => xx9; clear xx9)); (repeat (rename StrsAre _ _ => xx9; clear xx9)); (repeat (rename Kp _ _ _ => xx9; clear xx9)); (repeat (rename DueAt _ _ _ _ => xx9; clear xx9)); (repeat (rename (_ < _ ∧ _) => xx9; clear xx9))
            intro XB K5 B5 X5 P5 N5 F5
            (try dsimp only at N5 hCd)
            clear hG1 hG2 hG3 hG4 hG5
            have hcl5 := codes_len (mendedL us).length (mendedL us) (Nat.le_refl _)
            have hvCl := IntsAre.length hcw5
            k_with_none
            k_with "LeaveT" => (k_dflt (refine' leaveT_ ?z77k1 ?z77k2 ?z77k3 ?_; (case z77k1 => k_asm); (case z77k2 => k_asm); (case z77k3 => first | assumption | exact KtsTurn.refl | exact KtsTurn.trans (by assumption) (by assumption)); intro _ _ _ _ _ _ _; (try dsimp only); (try k_fold)))
            k_with "callWith ref" => (k_here; k_dflt (refine' callWith_K ?z78k1 ?z78k2 ?_; (case z78k1 => k_asm); (case z78k2 => k_is); k_whole))
            k_with "call ref" => (k_here; k_dflt (refine' Con.use ?z79kC ?z79k1 ?z79k2 ?z79k3 ?z79k4 ?z79k5 ?z79kK ?z79kd ?z79ku ?_; (case z79k2 => k_asm); (case z79k4 => k_asm); (case z79kC => first | (refine' con_draw _ _ _ _ _ _ _ _ _ _ _ _ _ ?z79a1 ?z79a2 ?z79a3 ?z79a4 ?z79a5 ?z79a6 ?z79a7; (case z79a1 => k_updF); (case z79a2 => k_mem); (case z79a3 => assumption); (case z79a4 => assumption); (case z79a5 => assumption); (case z79a6 => omega); (case z79a7 => omega))); (case z79k1 => k_asm); (case z79k3 => k_asm); (case z79k5 => k_asm); (case z79kK => first | exact rfl | assumption); (case z79kd => ktr_room); (case z79ku => ktr_units); intro _ _ _ _ _ _ _ _ _ _; (try dsimp only); (try k_fold)))
            k_with "call ref" => (k_here; k_dflt (refine' Con.use ?z80kC ?z80k1 ?z80k2 ?z80k3 ?z80k4 ?z80k5 ?z80kK ?z80kd ?z80ku ?_; (case z80k2 => k_asm); (case z80k4 => k_asm); (case z80kC => first | (refine' con_fault _ _ _ _ _ _ _ _ ?z80a1 ?z80a2 ?z80a3 ?z80a4; (case z80a1 => k_mem); (case z80a2 => assumption); (case z80a3 => omega); (case z80a4 => omega))); (case z80k1 => k_asm); (case z80k3 => k_asm); (case z80k5 => k_asm); (case z80kK => first | exact rfl | assumption); (case z80kd => ktr_room); (case z80ku => ktr_units); intro _ _ _ _ _; (try dsimp only); (try k_fold)))
            k_with "call ref" => (k_here; k_dflt (refine' Con.use ?z81kC ?z81k1 ?z81k2 ?z81k3 ?z81k4 ?z81k5 ?z81kK ?z81kd ?z81ku ?_; (case z81k2 => k_asm); (case z81k4 => k_asm); (case z81kC => first | (refine' con_words _ _ _ _ _ _ ?z81a1 ?z81a2 ?z81a3; (case z81a1 => k_mem); (case z81a2 => assumption); (case z81a3 => omega))); (case z81k1 => k_asm); (case z81k3 => k_asm); (case z81k5 => k_asm); (case z81kK => first | exact rfl | assumption); (case z81kd => ktr_room); (case z81ku => ktr_units); intro _ _ _ _ _ _ _ _ _; (try dsimp only); (try k_fold)))
            k_with "binaryOp Mult ref int" => (k_here; k_dflt (refine' mul5 ?z82F ?z82N ?z82m ?_; (case z82F => k_asm); (case z82N => k_asm); (case z82m => k_mem)); intro _ _ _ _ _)
            k_with "call type:bytes" => (k_here; (with_reducible show wpAny _ _ (call (Value.type "bytes") [Value.ref _]) _ _ _); k_dflt (refine' KBa.make_K ?z83kbaF ?z83kbaN ?z83kbah ?z83kbal ?z83kbai ?z83kbar ?z83kban ?_; (case z83kbaF => k_asm); (case z83kbaN => k_asm); (case z83kbah => rfl); (case z83kbal => exact News.isList (by k_asm) (by k_mem)); (case z83kbai => first | assumption | exact .cons _ _ (.cons _ _ .nil)); (case z83kbar => assumption); (case z83kban => first | (show (2 : Nat) ≤ _; decide) | kba_size)); intro _ _ _ _ _ kbaIn; (have kbaS := KBa.sum_in kbaIn))
            k_with "call ref" => (k_here; k_dflt (refine' Con.use ?z84kC ?z84k1 ?z84k2 ?z84k3 ?z84k4 ?z84k5 ?z84kK ?z84kd ?z84ku ?_; (case z84k2 => k_asm); (case z84k4 => k_asm); (case z84kC => first | (refine' con_codes _ _ _ _ _ _ ?z84a1 ?z84a2 ?z84a3 ?z84a4; (case z84a1 => k_mem); (case z84a2 => assumption); (case z84a3 => omega); (case z84a4 => assumption))); (case z84k1 => k_asm); (case z84k3 => k_asm); (case z84k5 => k_asm); (case z84kK => first | exact rfl | assumption); (case z84kd => ktr_room); (case z84ku => ktr_units); intro _ _ _ _ _ _ _ _ _; (try dsimp only); (try k_fold)))
            k_with "call ref" => (k_here; k_dflt (refine' Con.use ?z85kC ?z85k1 ?z85k2 ?z85k3 ?z85k4 ?z85k5 ?z85kK ?z85kd ?z85ku ?_; (case z85k2 => k_asm); (case z85k4 => k_asm); (case z85kC => first | (refine' con_joined _ _ _ _ _ _ ?z85a1 ?z85a2 ?z85a3 ?z85a4; (case z85a1 => omega); (case z85a2 => omega); (case z85a3 => omega); (case z85a4 => omega))); (case z85k1 => k_asm); (case z85k3 => k_asm); (case z85k5 => k_asm); (case z85kK => first | exact rfl | assumption); (case z85kd => ktr_room); (case z85ku => ktr_units); intro _ _ _ _ _; (try dsimp only); (try k_fold)))
            k_with "call ref" => (k_here; k_dflt (refine' Con.use ?z86kC ?z86k1 ?z86k2 ?z86k3 ?z86k4 ?z86k5 ?z86kK ?z86kd ?z86ku ?_; (case z86k2 => k_asm); (case z86k4 => k_asm); (case z86kC => first | (refine' con_octets_be _ _ _ _ _ ?z86a1 ?z86a2; (case z86a1 => omega); (case z86a2 => omega))); (case z86k1 => k_asm); (case z86k3 => k_asm); (case z86k5 => k_asm); (case z86kK => first | exact rfl | assumption); (case z86kd => ktr_room); (case z86ku => ktr_units); intro _ _ _ _ _ _ _ _ _; (try dsimp only); (try k_fold)))
            k_with "call ref" => (k_here; k_dflt (refine' Con.use ?z87kC ?z87k1 ?z87k2 ?z87k3 ?z87k4 ?z87k5 ?z87kK ?z87kd ?z87ku ?_; (case z87k2 => k_asm); (case z87k4 => k_asm); (case z87kC => first | (refine' con_octets_le _ _ _ _ _ ?z87a1 ?z87a2; (case z87a1 => omega); (case z87a2 => omega))); (case z87k1 => k_asm); (case z87k3 => k_asm); (case z87k5 => k_asm); (case z87kK => first | exact rfl | assumption); (case z87kd => ktr_room); (case z87ku => ktr_units); intro _ _ _ _ _ _ _ _ _; (try dsimp only); (try k_fold)))
            k_with "call ref" => (k_here; k_dflt (refine' Con.use ?z88kC ?z88k1 ?z88k2 ?z88k3 ?z88k4 ?z88k5 ?z88kK ?z88kd ?z88ku ?_; (case z88k2 => k_asm); (case z88k4 => k_asm); (case z88kC => first | (refine' con_unit_be _ _ _ _ _ _ _ ?z88a1 ?z88a2; (case z88a1 => assumption); (case z88a2 => first | assumption | rfl))); (case z88k1 => k_asm); (case z88k3 => k_asm); (case z88k5 => k_asm); (case z88kK => first | exact rfl | assumption); (case z88kd => ktr_room); (case z88ku => ktr_units); intro _ _ _ _ _; (try dsimp only); (try k_fold)))
            k_with "call ref" => (k_here; k_dflt (refine' Con.use ?z89kC ?z89k1 ?z89k2 ?z89k3 ?z89k4 ?z89k5 ?z89kK ?z89kd ?z89ku ?_; (case z89k2 => k_asm); (case z89k4 => k_asm); (case z89kC => first | (refine' con_unit_le _ _ _ _ _ _ _ ?z89a1 ?z89a2; (case z89a1 => assumption); (case z89a2 => first | assumption | rfl))); (case z89k1 => k_asm); (case z89k3 => k_asm); (case z89k5 => k_asm); (case z89kK => first | exact rfl | assumption); (case z89kd => ktr_room); (case z89ku => ktr_units); intro _ _ _ _ _; (try dsimp only); (try k_fold)))
            k_with "call ref" => (k_here; k_dflt (refine' Con.use ?z90kC ?z90k1 ?z90k2 ?z90k3 ?z90k4 ?z90k5 ?z90kK ?z90kd ?z90ku ?_; (case z90k2 => k_asm); (case z90k4 => k_asm); (case z90kC => first | (refine' con_mended2 _ _ _ _ _ _ _ ?z90a1 ?z90a2 ?z90a3 ?z90a4; (case z90a1 => k_mem); (case z90a2 => assumption); (case z90a3 => omega); (case z90a4 => first | exact mended_twice _ | rfl))); (case z90k1 => k_asm); (case z90k3 => k_asm); (case z90k5 => k_asm); (case z90kK => first | exact rfl | assumption); (case z90kd => ktr_room); (case z90ku => ktr_units); intro _ _ _ _ _ _ _ _ _; (try dsimp only); (try k_fold)))
            k_with "compareOp NotEq ref ref" => (k_here; (with_reducible show wpAny _ _ (compareOp CmpOp.NotEq (Value.ref _) (Value.ref _)) _ _ _); k_dflt (refine ne_same (by is_list) (by is_list) (by assumption) (by assumption) (by ke_room) ?_))
            k_with "compareOp Eq bytes bytes" => (k_dflt (refine eq_bytesK (by kba_ints) (by kba_ints) ?_))
            k_with "compareOp NotEq bytes bytes" => (k_dflt (refine ne_bytesK (by kba_ints) (by kba_ints) ?_))
            k_with "compareOp NotEq ref ref" => (k_here; (with_reducible show wpAny _ _ (compareOp CmpOp.NotEq (Value.ref _) (Value.ref _)) _ _ _); k_dflt (refine' ne_given ?z94gN ?z94g1 ?z94g2 ?z94g3 ?z94g4 ?z94g5 ?z94g6 ?z94gu ?_; (case z94gN => k_asm); (case z94g1 => k_mem); (case z94g4 => k_mem); (case z94g2 => k_mem); (case z94g3 => assumption); (case z94g5 => k_mem); (case z94g6 => assumption); (case z94gu => ke_room); k_whole))
            k_with "call ref" => (k_here; k_dflt (refine' ConX.use ?z95kC ?z95k1 ?z95k2 ?z95k3 ?z95k4 ?z95k5 ?z95kK ?z95kd ?z95ku ?_ ?_; (case z95k2 => k_asm); (case z95k4 => k_asm); (case z95kC => first | (refine' con_text _ _ _ _ _ _ ?z95a1 ?z95a2 ?z95a3; (case z95a1 => k_mem); (case z95a2 => assumption); (case z95a3 => omega))); (case z95k1 => k_asm); (case z95k3 => k_asm); (case z95k5 => k_asm); (case z95kK => first | exact rfl | assumption); (case z95kd => ktr_room); (case z95ku => ktr_units); intro _ _ _ _ _ _ _ _ _ _; (try dsimp only); (try k_fold); rotate_left; (refine ⟨?_, ?_⟩); (try dsimp only); rotate_right))
            k_with "call ref" => (k_here; k_dflt (refine' ConX.use ?z96kC ?z96k1 ?z96k2 ?z96k3 ?z96k4 ?z96k5 ?z96kK ?z96kd ?z96ku ?_ ?_; (case z96k2 => k_asm); (case z96k4 => k_asm); (case z96kC => first | (refine' con_units2 _ _ _ _ _ _ _ ?z96a1 ?z96a2 ?z96a3 ?z96a4; (case z96a1 => k_mem); (case z96a2 => assumption); (case z96a3 => omega); (case z96a4 => assumption))); (case z96k1 => k_asm); (case z96k3 => k_asm); (case z96k5 => k_asm); (case z96kK => first | exact rfl | assumption); (case z96kd => ktr_room); (case z96ku => ktr_units); intro _ _ _ _ _ _ h9 tk9 _ _; (try dsimp only); (try k_fold); rotate_left; intro _ _ _ _ _ _ _ _ _ _ _ _; (try dsimp only); rotate_right))
            k_with "call type:list" => (k_here; (with_reducible show wpAny _ _ (call (Value.type _) [Value.ref _]) _ _ _); k_dflt (refine' list_copyI ?z97F ?z97N ?z97m ?z97i ?z97z ?_; (case z97F => k_asm); (case z97N => k_asm); (case z97m => k_mem); (case z97i => assumption); (case z97z => omega)); intro _ _ _ _ _ _)
            k_with "eval Name" => (k_here; (with_reducible show wpAny _ _ (eval (Expr.Name _ _) (envX _ _ _ _ _ _)) _ _ _); k_dflt (refine' nameX_F ?z98N ?z98c ?z98m ?z98d ?_ ?z98a ?z98b; (case z98a => rfl); (case z98b => rfl); (case z98N => k_asm); (case z98c => rfl); (case z98m => k_mem); (case z98d => k_asm); k_whole))
            k_with "exec For Tuple Call cons nil" => (k_dflt ((rename Fr _ _ _ _ => lF9); (with_unfolding_all refine' For_turns lF9 ?_; k_whole)))
            k_with "exec For Name Name cons nil" => (k_dflt ((rename Fr _ _ _ _ => lF9); (with_unfolding_all refine' For_turns lF9 ?_; k_whole)))
            k_with "call type:zip" => (k_dflt (refine WStop.go ?_))
            (try dsimp only)
            k_steps
            unfold WStop
            rename News _ _ _ ((_, listOf _ _) :: (_, listOf _ _) :: (Cd, _) :: _) => N4
            obtain ⟨led, hled⟩ := led_of N4
            have hD2m : (D2, lst zs) ∈ led := hled ▸ .tail _ (.tail _ (.tail _ (.tail _ (.head _))))
            k_dflt (refine for_zip (by rfl) (by k_asm) N4 (.tail _ (.tail _ (.tail _ (.tail _ (.head _))))) (.head _) (fun i m₁ n₁ => n₁ = led ∧ Kp [Str.ofString "faulty", Str.ofString "kept", Str.ofString "unit", Str.ofString "order", Str.ofString "octets"] (fun y => if y = Str.ofString "codes" then some (.ref Cd) else none) m₁) ⟨hled, (by first | walk_at "kp" | (intro y hy; simp only [List.mem_cons, not_or, List.not_mem_nil, not_false_eq_true, and_true] at hy; by_cases hq1 : y = Str.ofString "codes"; (· subst hq1; rfl); simp only [setN, setO, hy, hq1, if_false]))⟩ ?turn5 ?fin5)
            case turn5 =>
              intro i x y TT m₁ n₁ own h9 tk9 hx hy hTT hJ hoff hw hown F9 N9
              obtain ⟨e1, hkp⟩ := hJ
              subst e1
              obtain ⟨c1, c2, c3, c4, c5, rfl⟩ := shape5 hkp
              obtain ⟨hlt, tx, rfl⟩ := ints_item hzs hx
              have hub := hus _ (getD_mem hlt)
              clear N4 hled
              obtain ⟨rest, hrest⟩ : ∃ r, r = n₁ ++ own := ⟨_, rfl⟩
              rw [← hrest] at N9
              have hr1 := in_fd hub.1 hub.2
              have hr2 := in_df hub.1 hub.2
              have ho1 := oct_t (us.getD i 0)
              have ho2 := oct_f (us.getD i 0)
              have hr3 : KBa.In (octL (us.getD i 0) true) := ho1 ▸ hr1
              have hr4 : KBa.In (octL (us.getD i 0) false) := ho2 ▸ hr2
              have hu1 := unit_t (us.getD i 0)
              have hu2 := unit_f (us.getD i 0)
              rcases strs10 hy with ⟨ty, rfl⟩ | ⟨ty, rfl⟩
              all_goals k_steps
              all_goals subst hrest
              all_goals first
                | exact TurnEnd.intro (n' := n₁) (by k_asm) (news_sub (by k_asm) (fun p hp => .tail _ (.tail _ hp))) hoff ⟨rfl, (by first | walk_at "kp" | (intro y hy; simp only [List.mem_cons, not_or, List.not_mem_nil, not_false_eq_true, and_true] at hy; by_cases hq1 : y = Str.ofString "codes"; (· subst hq1; rfl); simp only [setN, setO, hy, hq1, if_false]))⟩
                | exact absurd hu1 ‹_›
                | exact absurd hu2 ‹_›
            case fin5 =>
              rintro m₁ n₁ h9 tk9 ⟨e1, hkp⟩ F9 N9
              subst e1
              obtain ⟨c1, c2, c3, c4, c5, rfl⟩ := shape5 hkp
              subst hled
              have N3 := news_sub N9 (fun p hp => .tail _ (.tail _ hp))
              clear N9 N4 hkp
              k_with_none
              k_with "LeaveT" => (k_dflt (refine' leaveT_ ?z77k1 ?z77k2 ?z77k3 ?_; (case z77k1 => k_asm); (case z77k2 => k_asm); (case z77k3 => first | assumption | exact KtsTurn.refl | exact KtsTurn.trans (by assumption) (by assumption)); intro _ _ _ _ _ _ _; (try dsimp only); (try k_fold)))
              k_with "callWith ref" => (k_here; k_dflt (refine' callWith_K ?z78k1 ?z78k2 ?_; (case z78k1 => k_asm); (case z78k2 => k_is); k_whole))
              k_with "call ref" => (k_here; k_dflt (refine' Con.use ?z79kC ?z79k1 ?z79k2 ?z79k3 ?z79k4 ?z79k5 ?z79kK ?z79kd ?z79ku ?_; (case z79k2 => k_asm); (case z79k4 => k_asm); (case z79kC => first | (refine' con_draw _ _ _ _ _ _ _ _ _ _ _ _ _ ?z79a1 ?z79a2 ?z79a3 ?z79a4 ?z79a5 ?z79a6 ?z79a7; (case z79a1 => k_updF); (case z79a2 => k_mem); (case z79a3 => assumption); (case z79a4 => assumption); (case z79a5 => assumption); (case z79a6 => omega); (case z79a7 => omega))); (case z79k1 => k_asm); (case z79k3 => k_asm); (case z79k5 => k_asm); (case z79kK => first | exact rfl | assumption); (case z79kd => ktr_room); (case z79ku => ktr_units); intro _ _ _ _ _ _ _ _ _ _; (try dsimp only); (try k_fold)))
              k_with "call ref" => (k_here; k_dflt (refine' Con.use ?z80kC ?z80k1 ?z80k2 ?z80k3 ?z80k4 ?z80k5 ?z80kK ?z80kd ?z80ku ?_; (case z80k2 => k_asm); (case z80k4 => k_asm); (case z80kC => first | (refine' con_fault _ _ _ _ _ _ _ _ ?z80a1 ?z80a2 ?z80a3 ?z80a4; (case z80a1 => k_mem); (case z80a2 => assumption); (case z80a3 => omega); (case z80a4 => omega))); (case z80k1 => k_asm); (case z80k3 => k_asm); (case z80k5 => k_asm); (case z80kK => first | exact rfl | assumption); (case z80kd => ktr_room); (case z80ku => ktr_units); intro _ _ _ _ _; (try dsimp only); (try k_fold)))
              k_with "call ref" => (k_here; k_dflt (refine' Con.use ?z81kC ?z81k1 ?z81k2 ?z81k3 ?z81k4 ?z81k5 ?z81kK ?z81kd ?z81ku ?_; (case z81k2 => k_asm); (case z81k4 => k_asm); (case z81kC => first | (refine' con_words _ _ _ _ _ _ ?z81a1 ?z81a2 ?z81a3; (case z81a1 => k_mem); (case z81a2 => assumption); (case z81a3 => omega))); (case z81k1 => k_asm); (case z81k3 => k_asm); (case z81k5 => k_asm); (case z81kK => first | exact rfl | assumption); (case z81kd => ktr_room); (case z81ku => ktr_units); intro _ _ _ _ _ _ _ _ _; (try dsimp only); (try k_fold)))
              k_with "binaryOp Mult ref int" => (k_here; k_dflt (refine' mul5 ?z82F ?z82N ?z82m ?_; (case z82F => k_asm); (case z82N => k_asm); (case z82m => k_mem)); intro _ _ _ _ _)
              k_with "call type:bytes" => (k_here; (with_reducible show wpAny _ _ (call (Value.type "bytes") [Value.ref _]) _ _ _); k_dflt (refine' KBa.make_K ?z83kbaF ?z83kbaN ?z83kbah ?z83kbal ?z83kbai ?z83kbar ?z83kban ?_; (case z83kbaF => k_asm); (case z83kbaN => k_asm); (case z83kbah => rfl); (case z83kbal => exact News.isList (by k_asm) (by k_mem)); (case z83kbai => first | assumption | exact .cons _ _ (.cons _ _ .nil)); (case z83kbar => assumption); (case z83kban => first | (show (2 : Nat) ≤ _; decide) | kba_size)); intro _ _ _ _ _ kbaIn; (have kbaS := KBa.sum_in kbaIn))
              k_with "call ref" => (k_here; k_dflt (refine' Con.use ?z84kC ?z84k1 ?z84k2 ?z84k3 ?z84k4 ?z84k5 ?z84kK ?z84kd ?z84ku ?_; (case z84k2 => k_asm); (case z84k4 => k_asm); (case z84kC => first | (refine' con_codes _ _ _ _ _ _ ?z84a1 ?z84a2 ?z84a3 ?z84a4; (case z84a1 => k_mem); (case z84a2 => assumption); (case z84a3 => omega); (case z84a4 => assumption))); (case z84k1 => k_asm); (case z84k3 => k_asm); (case z84k5 => k_asm); (case z84kK => first | exact rfl | assumption); (case z84kd => ktr_room); (case z84ku => ktr_units); intro _ _ _ _ _ _ _ _ _; (try dsimp only); (try k_fold)))
              k_with "call ref" => (k_here; k_dflt (refine' Con.use ?z85kC ?z85k1 ?z85k2 ?z85k3 ?z85k4 ?z85k5 ?z85kK ?z85kd ?z85ku ?_; (case z85k2 => k_asm); (case z85k4 => k_asm); (case z85kC => first | (refine' con_joined _ _ _ _ _ _ ?z85a1 ?z85a2 ?z85a3 ?z85a4; (case z85a1 => omega); (case z85a2 => omega); (case z85a3 => omega); (case z85a4 => omega))); (case z85k1 => k_asm); (case z85k3 => k_asm); (case z85k5 => k_asm); (case z85kK => first | exact rfl | assumption); (case z85kd => ktr_room); (case z85ku => ktr_units); intro _ _ _ _ _; (try dsimp only); (try k_fold)))
              k_with "call ref" => (k_here; k_dflt (refine' Con.use ?z86kC ?z86k1 ?z86k2 ?z86k3 ?z86k4 ?z86k5 ?z86kK ?z86kd ?z86ku ?_; (case z86k2 => k_asm); (case z86k4 => k_asm); (case z86kC => first | (refine' con_octets_be _ _ _ _ _ ?z86a1 ?z86a2; (case z86a1 => omega); (case z86a2 => omega))); (case z86k1 => k_asm); (case z86k3 => k_asm); (case z86k5 => k_asm); (case z86kK => first | exact rfl | assumption); (case z86kd => ktr_room); (case z86ku => ktr_units); intro _ _ _ _ _ _ _ _ _; (try dsimp only); (try k_fold)))
              k_with "call ref" => (k_here; k_dflt (refine' Con.use ?z87kC ?z87k1 ?z87k2 ?z87k3 ?z87k4 ?z87k5 ?z87kK ?z87kd ?z87ku ?_; (case z87k2 => k_asm); (case z87k4 => k_asm); (case z87kC => first | (refine' con_octets_le _ _ _ _ _ ?z87a1 ?z87a2; (case z87a1 => omega); (case z87a2 => omega))); (case z87k1 => k_asm); (case z87k3 => k_asm); (case z87k5 => k_asm); (case z87kK => first | exact rfl | assumption); (case z87kd => ktr_room); (case z87ku => ktr_units); intro _ _ _ _ _ _ _ _ _; (try dsimp only); (try k_fold)))
              k_with "call ref" => (k_here; k_dflt (refine' Con.use ?z88kC ?z88k1 ?z88k2 ?z88k3 ?z88k4 ?z88k5 ?z88kK ?z88kd ?z88ku ?_; (case z88k2 => k_asm); (case z88k4 => k_asm); (case z88kC => first | (refine' con_unit_be _ _ _ _ _ _ _ ?z88a1 ?z88a2; (case z88a1 => assumption); (case z88a2 => first | assumption | rfl))); (case z88k1 => k_asm); (case z88k3 => k_asm); (case z88k5 => k_asm); (case z88kK => first | exact rfl | assumption); (case z88kd => ktr_room); (case z88ku => ktr_units); intro _ _ _ _ _; (try dsimp only); (try k_fold)))
              k_with "call ref" => (k_here; k_dflt (refine' Con.use ?z89kC ?z89k1 ?z89k2 ?z89k3 ?z89k4 ?z89k5 ?z89kK ?z89kd ?z89ku ?_; (case z89k2 => k_asm); (case z89k4 => k_asm); (case z89kC => first | (refine' con_unit_le _ _ _ _ _ _ _ ?z89a1 ?z89a2; (case z89a1 => assumption); (case z89a2 => first | assumption | rfl))); (case z89k1 => k_asm); (case z89k3 => k_asm); (case z89k5 => k_asm); (case z89kK => first | exact rfl | assumption); (case z89kd => ktr_room); (case z89ku => ktr_units); intro _ _ _ _ _; (try dsimp only); (try k_fold)))
              k_with "call ref" => (k_here; k_dflt (refine' Con.use ?z90kC ?z90k1 ?z90k2 ?z90k3 ?z90k4 ?z90k5 ?z90kK ?z90kd ?z90ku ?_; (case z90k2 => k_asm); (case z90k4 => k_asm); (case z90kC => first | (refine' con_mended2 _ _ _ _ _ _ _ ?z90a1 ?z90a2 ?z90a3 ?z90a4; (case z90a1 => k_mem); (case z90a2 => assumption); (case z90a3 => omega); (case z90a4 => first | exact mended_twice _ | rfl))); (case z90k1 => k_asm); (case z90k3 => k_asm); (case z90k5 => k_asm); (case z90kK => first | exact rfl | assumption); (case z90kd => ktr_room); (case z90ku => ktr_units); intro _ _ _ _ _ _ _ _ _; (try dsimp only); (try k_fold)))
              k_with "compareOp NotEq ref ref" => (k_here; (with_reducible show wpAny _ _ (compareOp CmpOp.NotEq (Value.ref _) (Value.ref _)) _ _ _); k_dflt (refine ne_same (by is_list) (by is_list) (by assumption) (by assumption) (by ke_room) ?_))
              k_with "compareOp Eq bytes bytes" => (k_dflt (refine eq_bytesK (by kba_ints) (by kba_ints) ?_))
              k_with "compareOp NotEq bytes bytes" => (k_dflt (refine ne_bytesK (by kba_ints) (by kba_ints) ?_))
              k_with "compareOp NotEq ref ref" => (k_here; (with_reducible show wpAny _ _ (compareOp CmpOp.NotEq (Value.ref _) (Value.ref _)) _ _ _); k_dflt (refine' ne_given ?z94gN ?z94g1 ?z94g2 ?z94g3 ?z94g4 ?z94g5 ?z94g6 ?z94gu ?_; (case z94gN => k_asm); (case z94g1 => k_mem); (case z94g4 => k_mem); (case z94g2 => k_mem); (case z94g3 => assumption); (case z94g5 => k_mem); (case z94g6 => assumption); (case z94gu => ke_room); k_whole))
              k_with "call ref" => (k_here; k_dflt (refine' ConX.use ?z95kC ?z95k1 ?z95k2 ?z95k3 ?z95k4 ?z95k5 ?z95kK ?z95kd ?z95ku ?_ ?_; (case z95k2 => k_asm); (case z95k4 => k_asm); (case z95kC => first | (refine' con_text _ _ _ _ _ _ ?z95a1 ?z95a2 ?z95a3; (case z95a1 => k_mem); (case z95a2 => assumption); (case z95a3 => omega))); (case z95k1 => k_asm); (case z95k3 => k_asm); (case z95k5 => k_asm); (case z95kK => first | exact rfl | assumption); (case z95kd => ktr_room); (case z95ku => ktr_units); intro _ _ _ _ _ _ _ _ _ _; (try dsimp only); (try k_fold); rotate_left; (refine ⟨?_, ?_⟩); (try dsimp only); rotate_right))
              k_with "call ref" => (k_here; k_dflt (refine' ConX.use ?z96kC ?z96k1 ?z96k2 ?z96k3 ?z96k4 ?z96k5 ?z96kK ?z96kd ?z96ku ?_ ?_; (case z96k2 => k_asm); (case z96k4 => k_asm); (case z96kC => first | (refine' con_units2 _ _ _ _ _ _ _ ?z96a1 ?z96a2 ?z96a3 ?z96a4; (case z96a1 => k_mem); (case z96a2 => assumption); (case z96a3 => omega); (case z96a4 => assumption))); (case z96k1 => k_asm); (case z96k3 => k_asm); (case z96k5 => k_asm); (case z96kK => first | exact rfl | assumption); (case z96kd => ktr_room); (case z96ku => ktr_units); intro _ _ _ _ _ _ h9 tk9 _ _; (try dsimp only); (try k_fold); rotate_left; intro _ _ _ _ _ _ _ _ _ _ _ _; (try dsimp only); rotate_right))
              k_with "call type:list" => (k_here; (with_reducible show wpAny _ _ (call (Value.type _) [Value.ref _]) _ _ _); k_dflt (refine' list_copyI ?z97F ?z97N ?z97m ?z97i ?z97z ?_; (case z97F => k_asm); (case z97N => k_asm); (case z97m => k_mem); (case z97i => assumption); (case z97z => omega)); intro _ _ _ _ _ _)
              k_with "eval Name" => (k_here; (with_reducible show wpAny _ _ (eval (Expr.Name _ _) (envX _ _ _ _ _ _)) _ _ _); k_dflt (refine' nameX_F ?z98N ?z98c ?z98m ?z98d ?_ ?z98a ?z98b; (case z98a => rfl); (case z98b => rfl); (case z98N => k_asm); (case z98c => rfl); (case z98m => k_mem); (case z98d => k_asm); k_whole))
              k_with "exec For Name Name cons nil" => (k_dflt ((rename Fr _ _ _ _ => lF9); (with_unfolding_all refine' For_turns lF9 ?_; k_whole)))
              k_steps
              obtain ⟨led, hled⟩ := led_of N3
              k_dflt (refine for_list (by rfl) (by k_asm) N3 (.head _) (fun i m₁ n₁ => n₁ = led ∧ Kp [Str.ofString "faulty", Str.ofString "kept", Str.ofString "unit", Str.ofString "order", Str.ofString "octets", Str.ofString "code"] (fun y => if y = Str.ofString "codes" then some (.ref Cd) else none) m₁) ⟨hled, (by first | walk_at "kp" | (intro y hy; simp only [List.mem_cons, not_or, List.not_mem_nil, not_false_eq_true, and_true] at hy; by_cases hq1 : y = Str.ofString "codes"; (· subst hq1; rfl); simp only [setN, setO, hy, hq1, if_false]))⟩ ?turn6 ?fin6)
              case turn6 =>
                intro i v m₁ n₁ own h9 tk9 hv hJ hoff hw hown F9 N9
                obtain ⟨e1, hkp⟩ := hJ
                subst e1
                obtain ⟨d1, d2, d3, d4, d5, d6, rfl⟩ := shape6 hkp
                obtain ⟨hlt, tx, rfl⟩ := ints_item hcw5 hv
                have hsb := scal_bounds (hscal _ (getD_mem hlt))
                have hsh : ((codesW (mendedL us)).getD i 0).fdiv (2 ^ Int.toNat 10) = (codesW (mendedL us)).getD i 0 / 1024 := fdiv_pow hsb.1 10
                have hma := band_1023 hsb.1
                clear N3 hled
                obtain ⟨rest, hrest⟩ : ∃ r, r = n₁ ++ own := ⟨_, rfl⟩
                rw [← hrest] at N9
                k_steps
                all_goals subst hrest
                all_goals first
                  | exact TurnEnd.intro (n' := n₁) (by k_asm) (by k_asm) hoff ⟨rfl, (by first | walk_at "kp" | (intro y hy; simp only [List.mem_cons, not_or, List.not_mem_nil, not_false_eq_true, and_true] at hy; by_cases hq1 : y = Str.ofString "codes"; (· subst hq1; rfl); simp only [setN, setO, hy, hq1, if_false]))⟩
                  | (exfalso; omega)
              case fin6 =>
                rintro m₁ n₁ h9 tk9 ⟨e1, hkp⟩ F9 N9
                subst e1
                obtain ⟨d1, d2, d3, d4, d5, d6, rfl⟩ := shape6 hkp
                subst hled
                clear N3 hkp
                k_with_none
                k_with "LeaveT" => (k_dflt (refine' leaveT_ ?z77k1 ?z77k2 ?z77k3 ?_; (case z77k1 => k_asm); (case z77k2 => k_asm); (case z77k3 => first | assumption | exact KtsTurn.refl | exact KtsTurn.trans (by assumption) (by assumption)); intro _ _ _ _ _ _ _; (try dsimp only); (try k_fold)))
                k_with "callWith ref" => (k_here; k_dflt (refine' callWith_K ?z78k1 ?z78k2 ?_; (case z78k1 => k_asm); (case z78k2 => k_is); k_whole))
                k_with "call ref" => (k_here; k_dflt (refine' Con.use ?z79kC ?z79k1 ?z79k2 ?z79k3 ?z79k4 ?z79k5 ?z79kK ?z79kd ?z79ku ?_; (case z79k2 => k_asm); (case z79k4 => k_asm); (case z79kC => first | (refine' con_draw _ _ _ _ _ _ _ _ _ _ _ _ _ ?z79a1 ?z79a2 ?z79a3 ?z79a4 ?z79a5 ?z79a6 ?z79a7; (case z79a1 => k_updF); (case z79a2 => k_mem); (case z79a3 => assumption); (case z79a4 => assumption); (case z79a5 => assumption); (case z79a6 => omega); (case z79a7 => omega))); (case z79k1 => k_asm); (case z79k3 => k_asm); (case z79k5 => k_asm); (case z79kK => first | exact rfl | assumption); (case z79kd => ktr_room); (case z79ku => ktr_units); intro _ _ _ _ _ _ _ _ _ _; (try dsimp only); (try k_fold)))
                k_with "call ref" => (k_here; k_dflt (refine' Con.use ?z80kC ?z80k1 ?z80k2 ?z80k3 ?z80k4 ?z80k5 ?z80kK ?z80kd ?z80ku ?_; (case z80k2 => k_asm); (case z80k4 => k_asm); (case z80kC => first | (refine' con_fault _ _ _ _ _ _ _ _ ?z80a1 ?z80a2 ?z80a3 ?z80a4; (case z80a1 => k_mem); (case z80a2 => assumption); (case z80a3 => omega); (case z80a4 => omega))); (case z80k1 => k_asm); (case z80k3 => k_asm); (case z80k5 => k_asm); (case z80kK => first | exact rfl | assumption); (case z80kd => ktr_room); (case z80ku => ktr_units); intro _ _ _ _ _; (try dsimp only); (try k_fold)))
                k_with "call ref" => (k_here; k_dflt (refine' Con.use ?z81kC ?z81k1 ?z81k2 ?z81k3 ?z81k4 ?z81k5 ?z81kK ?z81kd ?z81ku ?_; (case z81k2 => k_asm); (case z81k4 => k_asm); (case z81kC => first | (refine' con_words _ _ _ _ _ _ ?z81a1 ?z81a2 ?z81a3; (case z81a1 => k_mem); (case z81a2 => assumption); (case z81a3 => omega))); (case z81k1 => k_asm); (case z81k3 => k_asm); (case z81k5 => k_asm); (case z81kK => first | exact rfl | assumption); (case z81kd => ktr_room); (case z81ku => ktr_units); intro _ _ _ _ _ _ _ _ _; (try dsimp only); (try k_fold)))
                k_with "binaryOp Mult ref int" => (k_here; k_dflt (refine' mul5 ?z82F ?z82N ?z82m ?_; (case z82F => k_asm); (case z82N => k_asm); (case z82m => k_mem)); intro _ _ _ _ _)
                k_with "call type:bytes" => (k_here; (with_reducible show wpAny _ _ (call (Value.type "bytes") [Value.ref _]) _ _ _); k_dflt (refine' KBa.make_K ?z83kbaF ?z83kbaN ?z83kbah ?z83kbal ?z83kbai ?z83kbar ?z83kban ?_; (case z83kbaF => k_asm); (case z83kbaN => k_asm); (case z83kbah => rfl); (case z83kbal => exact News.isList (by k_asm) (by k_mem)); (case z83kbai => first | assumption | exact .cons _ _ (.cons _ _ .nil)); (case z83kbar => assumption); (case z83kban => first | (show (2 : Nat) ≤ _; decide) | kba_size)); intro _ _ _ _ _ kbaIn; (have kbaS := KBa.sum_in kbaIn))
                k_with "call ref" => (k_here; k_dflt (refine' Con.use ?z84kC ?z84k1 ?z84k2 ?z84k3 ?z84k4 ?z84k5 ?z84kK ?z84kd ?z84ku ?_; (case z84k2 => k_asm); (case z84k4 => k_asm); (case z84kC => first | (refine' con_codes _ _ _ _ _ _ ?z84a1 ?z84a2 ?z84a3 ?z84a4; (case z84a1 => k_mem); (case z84a2 => assumption); (case z84a3 => omega); (case z84a4 => assumption))); (case z84k1 => k_asm); (case z84k3 => k_asm); (case z84k5 => k_asm); (case z84kK => first | exact rfl | assumption); (case z84kd => ktr_room); (case z84ku => ktr_units); intro _ _ _ _ _ _ _ _ _; (try dsimp only); (try k_fold)))
                k_with "call ref" => (k_here; k_dflt (refine' Con.use ?z85kC ?z85k1 ?z85k2 ?z85k3 ?z85k4 ?z85k5 ?z85kK ?z85kd ?z85ku ?_; (case z85k2 => k_asm); (case z85k4 => k_asm); (case z85kC => first | (refine' con_joined _ _ _ _ _ _ ?z85a1 ?z85a2 ?z85a3 ?z85a4; (case z85a1 => omega); (case z85a2 => omega); (case z85a3 => omega); (case z85a4 => omega))); (case z85k1 => k_asm); (case z85k3 => k_asm); (case z85k5 => k_asm); (case z85kK => first | exact rfl | assumption); (case z85kd => ktr_room); (case z85ku => ktr_units); intro _ _ _ _ _; (try dsimp only); (try k_fold)))
                k_with "call ref" => (k_here; k_dflt (refine' Con.use ?z86kC ?z86k1 ?z86k2 ?z86k3 ?z86k4 ?z86k5 ?z86kK ?z86kd ?z86ku ?_; (case z86k2 => k_asm); (case z86k4 => k_asm); (case z86kC => first | (refine' con_octets_be _ _ _ _ _ ?z86a1 ?z86a2; (case z86a1 => omega); (case z86a2 => omega))); (case z86k1 => k_asm); (case z86k3 => k_asm); (case z86k5 => k_asm); (case z86kK => first | exact rfl | assumption); (case z86kd => ktr_room); (case z86ku => ktr_units); intro _ _ _ _ _ _ _ _ _; (try dsimp only); (try k_fold)))
                k_with "call ref" => (k_here; k_dflt (refine' Con.use ?z87kC ?z87k1 ?z87k2 ?z87k3 ?z87k4 ?z87k5 ?z87kK ?z87kd ?z87ku ?_; (case z87k2 => k_asm); (case z87k4 => k_asm); (case z87kC => first | (refine' con_octets_le _ _ _ _ _ ?z87a1 ?z87a2; (case z87a1 => omega); (case z87a2 => omega))); (case z87k1 => k_asm); (case z87k3 => k_asm); (case z87k5 => k_asm); (case z87kK => first | exact rfl | assumption); (case z87kd => ktr_room); (case z87ku => ktr_units); intro _ _ _ _ _ _ _ _ _; (try dsimp only); (try k_fold)))
                k_with "call ref" => (k_here; k_dflt (refine' Con.use ?z88kC ?z88k1 ?z88k2 ?z88k3 ?z88k4 ?z88k5 ?z88kK ?z88kd ?z88ku ?_; (case z88k2 => k_asm); (case z88k4 => k_asm); (case z88kC => first | (refine' con_unit_be _ _ _ _ _ _ _ ?z88a1 ?z88a2; (case z88a1 => assumption); (case z88a2 => first | assumption | rfl))); (case z88k1 => k_asm); (case z88k3 => k_asm); (case z88k5 => k_asm); (case z88kK => first | exact rfl | assumption); (case z88kd => ktr_room); (case z88ku => ktr_units); intro _ _ _ _ _; (try dsimp only); (try k_fold)))
                k_with "call ref" => (k_here; k_dflt (refine' Con.use ?z89kC ?z89k1 ?z89k2 ?z89k3 ?z89k4 ?z89k5 ?z89kK ?z89kd ?z89ku ?_; (case z89k2 => k_asm); (case z89k4 => k_asm); (case z89kC => first | (refine' con_unit_le _ _ _ _ _ _ _ ?z89a1 ?z89a2; (case z89a1 => assumption); (case z89a2 => first | assumption | rfl))); (case z89k1 => k_asm); (case z89k3 => k_asm); (case z89k5 => k_asm); (case z89kK => first | exact rfl | assumption); (case z89kd => ktr_room); (case z89ku => ktr_units); intro _ _ _ _ _; (try dsimp only); (try k_fold)))
                k_with "call ref" => (k_here; k_dflt (refine' Con.use ?z90kC ?z90k1 ?z90k2 ?z90k3 ?z90k4 ?z90k5 ?z90kK ?z90kd ?z90ku ?_; (case z90k2 => k_asm); (case z90k4 => k_asm); (case z90kC => first | (refine' con_mended2 _ _ _ _ _ _ _ ?z90a1 ?z90a2 ?z90a3 ?z90a4; (case z90a1 => k_mem); (case z90a2 => assumption); (case z90a3 => omega); (case z90a4 => first | exact mended_twice _ | rfl))); (case z90k1 => k_asm); (case z90k3 => k_asm); (case z90k5 => k_asm); (case z90kK => first | exact rfl | assumption); (case z90kd => ktr_room); (case z90ku => ktr_units); intro _ _ _ _ _ _ _ _ _; (try dsimp only); (try k_fold)))
                k_with "compareOp NotEq ref ref" => (k_here; (with_reducible show wpAny _ _ (compareOp CmpOp.NotEq (Value.ref _) (Value.ref _)) _ _ _); k_dflt (refine ne_same (by is_list) (by is_list) (by assumption) (by assumption) (by ke_room) ?_))
                k_with "compareOp Eq bytes bytes" => (k_dflt (refine eq_bytesK (by kba_ints) (by kba_ints) ?_))
                k_with "compareOp NotEq bytes bytes" => (k_dflt (refine ne_bytesK (by kba_ints) (by kba_ints) ?_))
                k_with "compareOp NotEq ref ref" => (k_here; (with_reducible show wpAny _ _ (compareOp CmpOp.NotEq (Value.ref _) (Value.ref _)) _ _ _); k_dflt (refine' ne_given ?z94gN ?z94g1 ?z94g2 ?z94g3 ?z94g4 ?z94g5 ?z94g6 ?z94gu ?_; (case z94gN => k_asm); (case z94g1 => k_mem); (case z94g4 => k_mem); (case z94g2 => k_mem); (case z94g3 => assumption); (case z94g5 => k_mem); (case z94g6 => assumption); (case z94gu => ke_room); k_whole))
                k_with "call ref" => (k_here; k_dflt (refine' ConX.use ?z95kC ?z95k1 ?z95k2 ?z95k3 ?z95k4 ?z95k5 ?z95kK ?z95kd ?z95ku ?_ ?_; (case z95k2 => k_asm); (case z95k4 => k_asm); (case z95kC => first | (refine' con_text _ _ _ _ _ _ ?z95a1 ?z95a2 ?z95a3; (case z95a1 => k_mem); (case z95a2 => assumption); (case z95a3 => omega))); (case z95k1 => k_asm); (case z95k3 => k_asm); (case z95k5 => k_asm); (case z95kK => first | exact rfl | assumption); (case z95kd => ktr_room); (case z95ku => ktr_units); intro _ _ _ _ _ _ _ _ _ _; (try dsimp only); (try k_fold); rotate_left; (refine ⟨?_, ?_⟩); (try dsimp only); rotate_right))
                k_with "call ref" => (k_here; k_dflt (refine' ConX.use ?z96kC ?z96k1 ?z96k2 ?z96k3 ?z96k4 ?z96k5 ?z96kK ?z96kd ?z96ku ?_ ?_; (case z96k2 => k_asm); (case z96k4 => k_asm); (case z96kC => first | (refine' con_units2 _ _ _ _ _ _ _ ?z96a1 ?z96a2 ?z96a3 ?z96a4; (case z96a1 => k_mem); (case z96a2 => assumption); (case z96a3 => omega); (case z96a4 => assumption))); (case z96k1 => k_asm); (case z96k3 => k_asm); (case z96k5 => k_asm); (case z96kK => first | exact rfl | assumption); (case z96kd => ktr_room); (case z96ku => ktr_units); intro _ _ _ _ _ _ h9 tk9 _ _; (try dsimp only); (try k_fold); rotate_left; intro _ _ _ _ _ _ _ _ _ _ _ _; (try dsimp only); rotate_right))
                k_with "call type:list" => (k_here; (with_reducible show wpAny _ _ (call (Value.type _) [Value.ref _]) _ _ _); k_dflt (refine' list_copyI ?z97F ?z97N ?z97m ?z97i ?z97z ?_; (case z97F => k_asm); (case z97N => k_asm); (case z97m => k_mem); (case z97i => assumption); (case z97z => omega)); intro _ _ _ _ _ _)
                k_with "eval Name" => (k_here; (with_reducible show wpAny _ _ (eval (Expr.Name _ _) (envX _ _ _ _ _ _)) _ _ _); k_dflt (refine' nameX_F ?z98N ?z98c ?z98m ?z98d ?_ ?z98a ?z98b; (case z98a => rfl); (case z98b => rfl); (case z98N => k_asm); (case z98c => rfl); (case z98m => k_mem); (case z98d => k_asm); k_whole))
                k_with "call ref" => (k_dflt (refine WStop.go ?_))
                k_with "call ref" => (k_here; k_dflt (refine' Con.use ?z79kC ?z79k1 ?z79k2 ?z79k3 ?z79k4 ?z79k5 ?z79kK ?z79kd ?z79ku ?_; (case z79k2 => k_asm); (case z79k4 => k_asm); (case z79kC => first | (refine' con_draw _ _ _ _ _ _ _ _ _ _ _ _ _ ?z79a1 ?z79a2 ?z79a3 ?z79a4 ?z79a5 ?z79a6 ?z79a7; (case z79a1 => k_updF); (case z79a2 => k_mem); (case z79a3 => assumption); (case z79a4 => assumption); (case z79a5 => assumption); (case z79a6 => omega); (case z79a7 => omega))); (case z79k1 => k_asm); (case z79k3 => k_asm); (case z79k5 => k_asm); (case z79kK => first | exact rfl | assumption); (case z79kd => ktr_room); (case z79ku => ktr_units); intro _ _ _ _ _ _ _ _ _ _; (try dsimp only); (try k_fold)))
                k_with "call ref" => (k_here; k_dflt (refine' Con.use ?z80kC ?z80k1 ?z80k2 ?z80k3 ?z80k4 ?z80k5 ?z80kK ?z80kd ?z80ku ?_; (case z80k2 => k_asm); (case z80k4 => k_asm); (case z80kC => first | (refine' con_fault _ _ _ _ _ _ _ _ ?z80a1 ?z80a2 ?z80a3 ?z80a4; (case z80a1 => k_mem); (case z80a2 => assumption); (case z80a3 => omega); (case z80a4 => omega))); (case z80k1 => k_asm); (case z80k3 => k_asm); (case z80k5 => k_asm); (case z80kK => first | exact rfl | assumption); (case z80kd => ktr_room); (case z80ku => ktr_units); intro _ _ _ _ _; (try dsimp only); (try k_fold)))
                k_with "call ref" => (k_here; k_dflt (refine' Con.use ?z81kC ?z81k1 ?z81k2 ?z81k3 ?z81k4 ?z81k5 ?z81kK ?z81kd ?z81ku ?_; (case z81k2 => k_asm); (case z81k4 => k_asm); (case z81kC => first | (refine' con_words _ _ _ _ _ _ ?z81a1 ?z81a2 ?z81a3; (case z81a1 => k_mem); (case z81a2 => assumption); (case z81a3 => omega))); (case z81k1 => k_asm); (case z81k3 => k_asm); (case z81k5 => k_asm); (case z81kK => first | exact rfl | assumption); (case z81kd => ktr_room); (case z81ku => ktr_units); intro _ _ _ _ _ _ _ _ _; (try dsimp only); (try k_fold)))
                k_with "call ref" => (k_here; k_dflt (refine' Con.use ?z84kC ?z84k1 ?z84k2 ?z84k3 ?z84k4 ?z84k5 ?z84kK ?z84kd ?z84ku ?_; (case z84k2 => k_asm); (case z84k4 => k_asm); (case z84kC => first | (refine' con_codes _ _ _ _ _ _ ?z84a1 ?z84a2 ?z84a3 ?z84a4; (case z84a1 => k_mem); (case z84a2 => assumption); (case z84a3 => omega); (case z84a4 => assumption))); (case z84k1 => k_asm); (case z84k3 => k_asm); (case z84k5 => k_asm); (case z84kK => first | exact rfl | assumption); (case z84kd => ktr_room); (case z84ku => ktr_units); intro _ _ _ _ _ _ _ _ _; (try dsimp only); (try k_fold)))
                k_with "call ref" => (k_here; k_dflt (refine' Con.use ?z85kC ?z85k1 ?z85k2 ?z85k3 ?z85k4 ?z85k5 ?z85kK ?z85kd ?z85ku ?_; (case z85k2 => k_asm); (case z85k4 => k_asm); (case z85kC => first | (refine' con_joined _ _ _ _ _ _ ?z85a1 ?z85a2 ?z85a3 ?z85a4; (case z85a1 => omega); (case z85a2 => omega); (case z85a3 => omega); (case z85a4 => omega))); (case z85k1 => k_asm); (case z85k3 => k_asm); (case z85k5 => k_asm); (case z85kK => first | exact rfl | assumption); (case z85kd => ktr_room); (case z85ku => ktr_units); intro _ _ _ _ _; (try dsimp only); (try k_fold)))
                k_with "call ref" => (k_here; k_dflt (refine' Con.use ?z86kC ?z86k1 ?z86k2 ?z86k3 ?z86k4 ?z86k5 ?z86kK ?z86kd ?z86ku ?_; (case z86k2 => k_asm); (case z86k4 => k_asm); (case z86kC => first | (refine' con_octets_be _ _ _ _ _ ?z86a1 ?z86a2; (case z86a1 => omega); (case z86a2 => omega))); (case z86k1 => k_asm); (case z86k3 => k_asm); (case z86k5 => k_asm); (case z86kK => first | exact rfl | assumption); (case z86kd => ktr_room); (case z86ku => ktr_units); intro _ _ _ _ _ _ _ _ _; (try dsimp only); (try k_fold)))
                k_with "call ref" => (k_here; k_dflt (refine' Con.use ?z87kC ?z87k1 ?z87k2 ?z87k3 ?z87k4 ?z87k5 ?z87kK ?z87kd ?z87ku ?_; (case z87k2 => k_asm); (case z87k4 => k_asm); (case z87kC => first | (refine' con_octets_le _ _ _ _ _ ?z87a1 ?z87a2; (case z87a1 => omega); (case z87a2 => omega))); (case z87k1 => k_asm); (case z87k3 => k_asm); (case z87k5 => k_asm); (case z87kK => first | exact rfl | assumption); (case z87kd => ktr_room); (case z87ku => ktr_units); intro _ _ _ _ _ _ _ _ _; (try dsimp only); (try k_fold)))
                k_with "call ref" => (k_here; k_dflt (refine' Con.use ?z88kC ?z88k1 ?z88k2 ?z88k3 ?z88k4 ?z88k5 ?z88kK ?z88kd ?z88ku ?_; (case z88k2 => k_asm); (case z88k4 => k_asm); (case z88kC => first | (refine' con_unit_be _ _ _ _ _ _ _ ?z88a1 ?z88a2; (case z88a1 => assumption); (case z88a2 => first | assumption | rfl))); (case z88k1 => k_asm); (case z88k3 => k_asm); (case z88k5 => k_asm); (case z88kK => first | exact rfl | assumption); (case z88kd => ktr_room); (case z88ku => ktr_units); intro _ _ _ _ _; (try dsimp only); (try k_fold)))
                k_with "call ref" => (k_here; k_dflt (refine' Con.use ?z89kC ?z89k1 ?z89k2 ?z89k3 ?z89k4 ?z89k5 ?z89kK ?z89kd ?z89ku ?_; (case z89k2 => k_asm); (case z89k4 => k_asm); (case z89kC => first | (refine' con_unit_le _ _ _ _ _ _ _ ?z89a1 ?z89a2; (case z89a1 => assumption); (case z89a2 => first | assumption | rfl))); (case z89k1 => k_asm); (case z89k3 => k_asm); (case z89k5 => k_asm); (case z89kK => first | exact rfl | assumption); (case z89kd => ktr_room); (case z89ku => ktr_units); intro _ _ _ _ _; (try dsimp only); (try k_fold)))
                k_with "call ref" => (k_here; k_dflt (refine' Con.use ?z90kC ?z90k1 ?z90k2 ?z90k3 ?z90k4 ?z90k5 ?z90kK ?z90kd ?z90ku ?_; (case z90k2 => k_asm); (case z90k4 => k_asm); (case z90kC => first | (refine' con_mended2 _ _ _ _ _ _ _ ?z90a1 ?z90a2 ?z90a3 ?z90a4; (case z90a1 => k_mem); (case z90a2 => assumption); (case z90a3 => omega); (case z90a4 => first | exact mended_twice _ | rfl))); (case z90k1 => k_asm); (case z90k3 => k_asm); (case z90k5 => k_asm); (case z90kK => first | exact rfl | assumption); (case z90kd => ktr_room); (case z90ku => ktr_units); intro _ _ _ _ _ _ _ _ _; (try dsimp only); (try k_fold)))
                k_with "call ref" => (k_here; k_dflt (refine' ConX.use ?z95kC ?z95k1 ?z95k2 ?z95k3 ?z95k4 ?z95k5 ?z95kK ?z95kd ?z95ku ?_ ?_; (case z95k2 => k_asm); (case z95k4 => k_asm); (case z95kC => first | (refine' con_text _ _ _ _ _ _ ?z95a1 ?z95a2 ?z95a3; (case z95a1 => k_mem); (case z95a2 => assumption); (case z95a3 => omega))); (case z95k1 => k_asm); (case z95k3 => k_asm); (case z95k5 => k_asm); (case z95kK => first | exact rfl | assumption); (case z95kd => ktr_room); (case z95ku => ktr_units); intro _ _ _ _ _ _ _ _ _ _; (try dsimp only); (try k_fold); rotate_left; (refine ⟨?_, ?_⟩); (try dsimp only); rotate_right))
                k_with "call ref" => (k_here; k_dflt (refine' ConX.use ?z96kC ?z96k1 ?z96k2 ?z96k3 ?z96k4 ?z96k5 ?z96kK ?z96kd ?z96ku ?_ ?_; (case z96k2 => k_asm); (case z96k4 => k_asm); (case z96kC => first | (refine' con_units2 _ _ _ _ _ _ _ ?z96a1 ?z96a2 ?z96a3 ?z96a4; (case z96a1 => k_mem); (case z96a2 => assumption); (case z96a3 => omega); (case z96a4 => assumption))); (case z96k1 => k_asm); (case z96k3 => k_asm); (case z96k5 => k_asm); (case z96kK => first | exact rfl | assumption); (case z96kd => ktr_room); (case z96ku => ktr_units); intro _ _ _ _ _ _ h9 tk9 _ _; (try dsimp only); (try k_fold); rotate_left; intro _ _ _ _ _ _ _ _ _ _ _ _; (try dsimp only); rotate_right))
                k_steps
                unfold WStop
                k_with_none
                k_with "LeaveT" => (k_dflt (refine' leaveT_ ?z77k1 ?z77k2 ?z77k3 ?_; (case z77k1 => k_asm); (case z77k2 => k_asm); (case z77k3 => first | assumption | exact KtsTurn.refl | exact KtsTurn.trans (by assumption) (by assumption)); intro _ _ _ _ _ _ _; (try dsimp only); (try k_fold)))
                k_with "callWith ref" => (k_here; k_dflt (refine' callWith_K ?z78k1 ?z78k2 ?_; (case z78k1 => k_asm); (case z78k2 => k_is); k_whole))
                k_with "call ref" => (k_here; k_dflt (refine' Con.use ?z79kC ?z79k1 ?z79k2 ?z79k3 ?z79k4 ?z79k5 ?z79kK ?z79kd ?z79ku ?_; (case z79k2 => k_asm); (case z79k4 => k_asm); (case z79kC => first | (refine' con_draw _ _ _ _ _ _ _ _ _ _ _ _ _ ?z79a1 ?z79a2 ?z79a3 ?z79a4 ?z79a5 ?z79a6 ?z79a7; (case z79a1 => k_updF); (case z79a2 => k_mem); (case z79a3 => assumption); (case z79a4 => assumption); (case z79a5 => assumption); (case z79a6 => omega); (case z79a7 => omega))); (case z79k1 => k_asm); (case z79k3 => k_asm); (case z79k5 => k_asm); (case z79kK => first | exact rfl | assumption); (case z79kd => ktr_room); (case z79ku => ktr_units); intro _ _ _ _ _ _ _ _ _ _; (try dsimp only); (try k_fold)))
                k_with "call ref" => (k_here; k_dflt (refine' Con.use ?z80kC ?z80k1 ?z80k2 ?z80k3 ?z80k4 ?z80k5 ?z80kK ?z80kd ?z80ku ?_; (case z80k2 => k_asm); (case z80k4 => k_asm); (case z80kC => first | (refine' con_fault _ _ _ _ _ _ _ _ ?z80a1 ?z80a2 ?z80a3 ?z80a4; (case z80a1 => k_mem); (case z80a2 => assumption); (case z80a3 => omega); (case z80a4 => omega))); (case z80k1 => k_asm); (case z80k3 => k_asm); (case z80k5 => k_asm); (case z80kK => first | exact rfl | assumption); (case z80kd => ktr_room); (case z80ku => ktr_units); intro _ _ _ _ _; (try dsimp only); (try k_fold)))
                k_with "call ref" => (k_here; k_dflt (refine' Con.use ?z81kC ?z81k1 ?z81k2 ?z81k3 ?z81k4 ?z81k5 ?z81kK ?z81kd ?z81ku ?_; (case z81k2 => k_asm); (case z81k4 => k_asm); (case z81kC => first | (refine' con_words _ _ _ _ _ _ ?z81a1 ?z81a2 ?z81a3; (case z81a1 => k_mem); (case z81a2 => assumption); (case z81a3 => omega))); (case z81k1 => k_asm); (case z81k3 => k_asm); (case z81k5 => k_asm); (case z81kK => first | exact rfl | assumption); (case z81kd => ktr_room); (case z81ku => ktr_units); intro _ _ _ _ _ _ _ _ _; (try dsimp only); (try k_fold)))
                k_with "binaryOp Mult ref int" => (k_here; k_dflt (refine' mul5 ?z82F ?z82N ?z82m ?_; (case z82F => k_asm); (case z82N => k_asm); (case z82m => k_mem)); intro _ _ _ _ _)
                k_with "call type:bytes" => (k_here; (with_reducible show wpAny _ _ (call (Value.type "bytes") [Value.ref _]) _ _ _); k_dflt (refine' KBa.make_K ?z83kbaF ?z83kbaN ?z83kbah ?z83kbal ?z83kbai ?z83kbar ?z83kban ?_; (case z83kbaF => k_asm); (case z83kbaN => k_asm); (case z83kbah => rfl); (case z83kbal => exact News.isList (by k_asm) (by k_mem)); (case z83kbai => first | assumption | exact .cons _ _ (.cons _ _ .nil)); (case z83kbar => assumption); (case z83kban => first | (show (2 : Nat) ≤ _; decide) | kba_size)); intro _ _ _ _ _ kbaIn; (have kbaS := KBa.sum_in kbaIn))
                k_with "call ref" => (k_here; k_dflt (refine' Con.use ?z84kC ?z84k1 ?z84k2 ?z84k3 ?z84k4 ?z84k5 ?z84kK ?z84kd ?z84ku ?_; (case z84k2 => k_asm); (case z84k4 => k_asm); (case z84kC => first | (refine' con_codes _ _ _ _ _ _ ?z84a1 ?z84a2 ?z84a3 ?z84a4; (case z84a1 => k_mem); (case z84a2 => assumption); (case z84a3 => omega); (case z84a4 => assumption))); (case z84k1 => k_asm); (case z84k3 => k_asm); (case z84k5 => k_asm); (case z84kK => first | exact rfl | assumption); (case z84kd => ktr_room); (case z84ku => ktr_units); intro _ _ _ _ _ _ _ _ _; (try dsimp only); (try k_fold)))
                k_with "call ref" => (k_here; k_dflt (refine' Con.use ?z85kC ?z85k1 ?z85k2 ?z85k3 ?z85k4 ?z85k5 ?z85kK ?z85kd ?z85ku ?_; (case z85k2 => k_asm); (case z85k4 => k_asm); (case z85kC => first | (refine' con_joined _ _ _ _ _ _ ?z85a1 ?z85a2 ?z85a3 ?z85a4; (case z85a1 => omega); (case z85a2 => omega); (case z85a3 => omega); (case z85a4 => omega))); (case z85k1 => k_asm); (case z85k3 => k_asm); (case z85k5 => k_asm); (case z85kK => first | exact rfl | assumption); (case z85kd => ktr_room); (case z85ku => ktr_units); intro _ _ _ _ _; (try dsimp only); (try k_fold)))
                k_with "call ref" => (k_here; k_dflt (refine' Con.use ?z86kC ?z86k1 ?z86k2 ?z86k3 ?z86k4 ?z86k5 ?z86kK ?z86kd ?z86ku ?_; (case z86k2 => k_asm); (case z86k4 => k_asm); (case z86kC => first | (refine' con_octets_be _ _ _ _ _ ?z86a1 ?z86a2; (case z86a1 => omega); (case z86a2 => omega))); (case z86k1 => k_asm); (case z86k3 => k_asm); (case z86k5 => k_asm); (case z86kK => first | exact rfl | assumption); (case z86kd => ktr_room); (case z86ku => ktr_units); intro _ _ _ _ _ _ _ _ _; (try dsimp only); (try k_fold)))
                k_with "call ref" => (k_here; k_dflt (refine' Con.use ?z87kC ?z87k1 ?z87k2 ?z87k3 ?z87k4 ?z87k5 ?z87kK ?z87kd ?z87ku ?_; (case z87k2 => k_asm); (case z87k4 => k_asm); (case z87kC => first | (refine' con_octets_le _ _ _ _ _ ?z87a1 ?z87a2; (case z87a1 => omega); (case z87a2 => omega))); (case z87k1 => k_asm); (case z87k3 => k_asm); (case z87k5 => k_asm); (case z87kK => first | exact rfl | assumption); (case z87kd => ktr_room); (case z87ku => ktr_units); intro _ _ _ _ _ _ _ _ _; (try dsimp only); (try k_fold)))
                k_with "call ref" => (k_here; k_dflt (refine' Con.use ?z88kC ?z88k1 ?z88k2 ?z88k3 ?z88k4 ?z88k5 ?z88kK ?z88kd ?z88ku ?_; (case z88k2 => k_asm); (case z88k4 => k_asm); (case z88kC => first | (refine' con_unit_be _ _ _ _ _ _ _ ?z88a1 ?z88a2; (case z88a1 => assumption); (case z88a2 => first | assumption | rfl))); (case z88k1 => k_asm); (case z88k3 => k_asm); (case z88k5 => k_asm); (case z88kK => first | exact rfl | assumption); (case z88kd => ktr_room); (case z88ku => ktr_units); intro _ _ _ _ _; (try dsimp only); (try k_fold)))
                k_with "call ref" => (k_here; k_dflt (refine' Con.use ?z89kC ?z89k1 ?z89k2 ?z89k3 ?z89k4 ?z89k5 ?z89kK ?z89kd ?z89ku ?_; (case z89k2 => k_asm); (case z89k4 => k_asm); (case z89kC => first | (refine' con_unit_le _ _ _ _ _ _ _ ?z89a1 ?z89a2; (case z89a1 => assumption); (case z89a2 => first | assumption | rfl))); (case z89k1 => k_asm); (case z89k3 => k_asm); (case z89k5 => k_asm); (case z89kK => first | exact rfl | assumption); (case z89kd => ktr_room); (case z89ku => ktr_units); intro _ _ _ _ _; (try dsimp only); (try k_fold)))
                k_with "call ref" => (k_here; k_dflt (refine' Con.use ?z90kC ?z90k1 ?z90k2 ?z90k3 ?z90k4 ?z90k5 ?z90kK ?z90kd ?z90ku ?_; (case z90k2 => k_asm); (case z90k4 => k_asm); (case z90kC => first | (refine' con_mended2 _ _ _ _ _ _ _ ?z90a1 ?z90a2 ?z90a3 ?z90a4; (case z90a1 => k_mem); (case z90a2 => assumption); (case z90a3 => omega); (case z90a4 => first | exact mended_twice _ | rfl))); (case z90k1 => k_asm); (case z90k3 => k_asm); (case z90k5 => k_asm); (case z90kK => first | exact rfl | assumption); (case z90kd => ktr_room); (case z90ku => ktr_units); intro _ _ _ _ _ _ _ _ _; (try dsimp only); (try k_fold)))
                k_with "compareOp NotEq ref ref" => (k_here; (with_reducible show wpAny _ _ (compareOp CmpOp.NotEq (Value.ref _) (Value.ref _)) _ _ _); k_dflt (refine ne_same (by is_list) (by is_list) (by assumption) (by assumption) (by ke_room) ?_))
                k_with "compareOp Eq bytes bytes" => (k_dflt (refine eq_bytesK (by kba_ints) (by kba_ints) ?_))
                k_with "compareOp NotEq bytes bytes" => (k_dflt (refine ne_bytesK (by kba_ints) (by kba_ints) ?_))
                k_with "compareOp NotEq ref ref" => (k_here; (with_reducible show wpAny _ _ (compareOp CmpOp.NotEq (Value.ref _) (Value.ref _)) _ _ _); k_dflt (refine' ne_given ?z94gN ?z94g1 ?z94g2 ?z94g3 ?z94g4 ?z94g5 ?z94g6 ?z94gu ?_; (case z94gN => k_asm); (case z94g1 => k_mem); (case z94g4 => k_mem); (case z94g2 => k_mem); (case z94g3 => assumption); (case z94g5 => k_mem); (case z94g6 => assumption); (case z94gu => ke_room); k_whole))
                k_with "call ref" => (k_here; k_dflt (refine' ConX.use ?z95kC ?z95k1 ?z95k2 ?z95k3 ?z95k4 ?z95k5 ?z95kK ?z95kd ?z95ku ?_ ?_; (case z95k2 => k_asm); (case z95k4 => k_asm); (case z95kC => first | (refine' con_text _ _ _ _ _ _ ?z95a1 ?z95a2 ?z95a3; (case z95a1 => k_mem); (case z95a2 => assumption); (case z95a3 => omega))); (case z95k1 => k_asm); (case z95k3 => k_asm); (case z95k5 => k_asm); (case z95kK => first | exact rfl | assumption); (case z95kd => ktr_room); (case z95ku => ktr_units); intro _ _ _ _ _ _ _ _ _ _; (try dsimp only); (try k_fold); rotate_left; (refine ⟨?_, ?_⟩); (try dsimp only); rotate_right))
                k_with "call ref" => (k_here; k_dflt (refine' ConX.use ?z96kC ?z96k1 ?z96k2 ?z96k3 ?z96k4 ?z96k5 ?z96kK ?z96kd ?z96ku ?_ ?_; (case z96k2 => k_asm); (case z96k4 => k_asm); (case z96kC => first | (refine' con_units2 _ _ _ _ _ _ _ ?z96a1 ?z96a2 ?z96a3 ?z96a4; (case z96a1 => k_mem); (case z96a2 => assumption); (case z96a3 => omega); (case z96a4 => assumption))); (case z96k1 => k_asm); (case z96k3 => k_asm); (case z96k5 => k_asm); (case z96kK => first | exact rfl | assumption); (case z96kd => ktr_room); (case z96ku => ktr_units); intro _ _ _ _ _ _ h9 tk9 _ _; (try dsimp only); (try k_fold); rotate_left; intro _ _ _ _ _ _ _ _ _ _ _ _; (try dsimp only); rotate_right))
                k_with "call type:list" => (k_here; (with_reducible show wpAny _ _ (call (Value.type _) [Value.ref _]) _ _ _); k_dflt (refine' list_copyI ?z97F ?z97N ?z97m ?z97i ?z97z ?_; (case z97F => k_asm); (case z97N => k_asm); (case z97m => k_mem); (case z97i => assumption); (case z97z => omega)); intro _ _ _ _ _ _)
                k_with "eval Name" => (k_here; (with_reducible show wpAny _ _ (eval (Expr.Name _ _) (envX _ _ _ _ _ _)) _ _ _); k_dflt (refine' nameX_F ?z98N ?z98c ?z98m ?z98d ?_ ?z98a ?z98b; (case z98a => rfl); (case z98b => rfl); (case z98N => k_asm); (case z98c => rfl); (case z98m => k_mem); (case z98d => k_asm); k_whole))
                k_dflt (refine' ConT.use (ConT.conv (con_wrong w ((Cd, listOf vC.toArray nC) :: (D4, lst ys) :: (D2, lst zs) :: (L' + 1 + 1 + 1, oD) :: (L' + 1 + 1, oU) :: (L' + 1, oc3) :: (253, tabObj T5) :: news) TP TL D2 Cd p2 t2 n2 k _ nC vs zs vC ns us (codesW (mendedL us)) ?w1 hT1 ?w2 ?w3 hi hlen hp2 (.tail _ (.tail _ (.head _))) hzs (by omega) (.head _) hcw5 (by omega) hscal) (ur_perm (a := [_, _, _, _, _, _, _])) (P2 := fun k => ∀ T1 p' t' n', 0 ≤ p' → k (.bool true) ((Cd, listOf vC.toArray nC) :: (D4, lst ys) :: (D2, lst zs) :: (L' + 1 + 1 + 1, oD) :: (L' + 1 + 1, oU) :: (L' + 1, oc3) :: (253, tabObj T5) :: (258, tabObj T1) :: (TP, listOf [Value.ref TL, .int p' t'].toArray n') :: news)) ?conv) ?k1 ?k2 ?k3 ?k4 ?k5 ?kXB ?kTB hS.1 ?kK ?kd ?ku ?_)
                case conv => exact fun k hk h T1 p' t' n' hp => hk _ _ _ (ur_perm2 (a := [_, _, _, _, _, _, _])) (h T1 p' t' n' hp)
                case w1 => exact all_cons (Ne.symm (hCd _ (.tail _ (.tail _ (.tail _ (.tail _ (.tail _ (.tail _ (.head _))))))))) (all_cons (by k_ne) (all_cons (by k_ne) (all_cons (by k_ne) (all_cons (by k_ne) (all_cons (by k_ne) (all_cons (by show (253 : Nat) ≠ 258; decide) hP1))))))
                case w2 => exact all_cons (Ne.symm (hCd _ (.tail _ (.tail _ (.tail _ (.tail _ (.tail _ (.tail _ (.tail _ (.head _)))))))))) (all_cons (by k_ne) (all_cons (by k_ne) (all_cons (by k_ne) (all_cons (by k_ne) (all_cons (by k_ne) (all_cons (by k_ne) hT))))))
                case w3 => exact .tail _ (.tail _ (.tail _ (.tail _ (.tail _ (.tail _ (.tail _ hTL))))))
                case k2 => k_asm
                case k4 => k_asm
                case k1 => k_asm
                case k3 => k_asm
                case k5 => k_asm
                case kXB => assumption
                case kTB => assumption
                case kK => rfl
                case kd => ktr_room
                case ku => ktr_units
                intro T1 p' t' n' hp' g9 h9 tk9 K9 B9 X9 P9 F9 N9
                k_steps
                exact hret T1 T5 _ _ _ hp' _ _ _ (by assumption) (by assumption) (by assumption) (by assumption) (by assumption) (news_sub (by assumption) (ur_sub (a := [_, _, _, _, _, _])))
          k_with "call ref" => (k_dflt (refine WStop.go ?_))
          k_with "call ref" => (k_here; k_dflt (refine' Con.use ?z79kC ?z79k1 ?z79k2 ?z79k3 ?z79k4 ?z79k5 ?z79kK ?z79kd ?z79ku ?_; (case z79k2 => k_asm); (case z79k4 => k_asm); (case z79kC => first | (refine' con_draw _ _ _ _ _ _ _ _ _ _ _ _ _ ?z79a1 ?z79a2 ?z79a3 ?z79a4 ?z79a5 ?z79a6 ?z79a7; (case z79a1 => k_updF); (case z79a2 => k_mem); (case z79a3 => assumption); (case z79a4 => assumption); (case z79a5 => assumption); (case z79a6 => omega); (case z79a7 => omega))); (case z79k1 => k_asm); (case z79k3 => k_asm); (case z79k5 => k_asm); (case z79kK => first | exact rfl | assumption); (case z79kd => ktr_room); (case z79ku => ktr_units); intro _ _ _ _ _ _ _ _ _ _; (try dsimp only); (try k_fold)))
          k_with "call ref" => (k_here; k_dflt (refine' Con.use ?z80kC ?z80k1 ?z80k2 ?z80k3 ?z80k4 ?z80k5 ?z80kK ?z80kd ?z80ku ?_; (case z80k2 => k_asm); (case z80k4 => k_asm); (case z80kC => first | (refine' con_fault _ _ _ _ _ _ _ _ ?z80a1 ?z80a2 ?z80a3 ?z80a4; (case z80a1 => k_mem); (case z80a2 => assumption); (case z80a3 => omega); (case z80a4 => omega))); (case z80k1 => k_asm); (case z80k3 => k_asm); (case z80k5 => k_asm); (case z80kK => first | exact rfl | assumption); (case z80kd => ktr_room); (case z80ku => ktr_units); intro _ _ _ _ _; (try dsimp only); (try k_fold)))
          k_with "call ref" => (k_here; k_dflt (refine' Con.use ?z81kC ?z81k1 ?z81k2 ?z81k3 ?z81k4 ?z81k5 ?z81kK ?z81kd ?z81ku ?_; (case z81k2 => k_asm); (case z81k4 => k_asm); (case z81kC => first | (refine' con_words _ _ _ _ _ _ ?z81a1 ?z81a2 ?z81a3; (case z81a1 => k_mem); (case z81a2 => assumption); (case z81a3 => omega))); (case z81k1 => k_asm); (case z81k3 => k_asm); (case z81k5 => k_asm); (case z81kK => first | exact rfl | assumption); (case z81kd => ktr_room); (case z81ku => ktr_units); intro _ _ _ _ _ _ _ _ _; (try dsimp only); (try k_fold)))
          k_with "call ref" => (k_here; k_dflt (refine' Con.use ?z84kC ?z84k1 ?z84k2 ?z84k3 ?z84k4 ?z84k5 ?z84kK ?z84kd ?z84ku ?_; (case z84k2 => k_asm); (case z84k4 => k_asm); (case z84kC => first | (refine' con_codes _ _ _ _ _ _ ?z84a1 ?z84a2 ?z84a3 ?z84a4; (case z84a1 => k_mem); (case z84a2 => assumption); (case z84a3 => omega); (case z84a4 => assumption))); (case z84k1 => k_asm); (case z84k3 => k_asm); (case z84k5 => k_asm); (case z84kK => first | exact rfl | assumption); (case z84kd => ktr_room); (case z84ku => ktr_units); intro _ _ _ _ _ _ _ _ _; (try dsimp only); (try k_fold)))
          k_with "call ref" => (k_here; k_dflt (refine' Con.use ?z85kC ?z85k1 ?z85k2 ?z85k3 ?z85k4 ?z85k5 ?z85kK ?z85kd ?z85ku ?_; (case z85k2 => k_asm); (case z85k4 => k_asm); (case z85kC => first | (refine' con_joined _ _ _ _ _ _ ?z85a1 ?z85a2 ?z85a3 ?z85a4; (case z85a1 => omega); (case z85a2 => omega); (case z85a3 => omega); (case z85a4 => omega))); (case z85k1 => k_asm); (case z85k3 => k_asm); (case z85k5 => k_asm); (case z85kK => first | exact rfl | assumption); (case z85kd => ktr_room); (case z85ku => ktr_units); intro _ _ _ _ _; (try dsimp only); (try k_fold)))
          k_with "call ref" => (k_here; k_dflt (refine' Con.use ?z86kC ?z86k1 ?z86k2 ?z86k3 ?z86k4 ?z86k5 ?z86kK ?z86kd ?z86ku ?_; (case z86k2 => k_asm); (case z86k4 => k_asm); (case z86kC => first | (refine' con_octets_be _ _ _ _ _ ?z86a1 ?z86a2; (case z86a1 => omega); (case z86a2 => omega))); (case z86k1 => k_asm); (case z86k3 => k_asm); (case z86k5 => k_asm); (case z86kK => first | exact rfl | assumption); (case z86kd => ktr_room); (case z86ku => ktr_units); intro _ _ _ _ _ _ _ _ _; (try dsimp only); (try k_fold)))
          k_with "call ref" => (k_here; k_dflt (refine' Con.use ?z87kC ?z87k1 ?z87k2 ?z87k3 ?z87k4 ?z87k5 ?z87kK ?z87kd ?z87ku ?_; (case z87k2 => k_asm); (case z87k4 => k_asm); (case z87kC => first | (refine' con_octets_le _ _ _ _ _ ?z87a1 ?z87a2; (case z87a1 => omega); (case z87a2 => omega))); (case z87k1 => k_asm); (case z87k3 => k_asm); (case z87k5 => k_asm); (case z87kK => first | exact rfl | assumption); (case z87kd => ktr_room); (case z87ku => ktr_units); intro _ _ _ _ _ _ _ _ _; (try dsimp only); (try k_fold)))
          k_with "call ref" => (k_here; k_dflt (refine' Con.use ?z88kC ?z88k1 ?z88k2 ?z88k3 ?z88k4 ?z88k5 ?z88kK ?z88kd ?z88ku ?_; (case z88k2 => k_asm); (case z88k4 => k_asm); (case z88kC => first | (refine' con_unit_be _ _ _ _ _ _ _ ?z88a1 ?z88a2; (case z88a1 => assumption); (case z88a2 => first | assumption | rfl))); (case z88k1 => k_asm); (case z88k3 => k_asm); (case z88k5 => k_asm); (case z88kK => first | exact rfl | assumption); (case z88kd => ktr_room); (case z88ku => ktr_units); intro _ _ _ _ _; (try dsimp only); (try k_fold)))
          k_with "call ref" => (k_here; k_dflt (refine' Con.use ?z89kC ?z89k1 ?z89k2 ?z89k3 ?z89k4 ?z89k5 ?z89kK ?z89kd ?z89ku ?_; (case z89k2 => k_asm); (case z89k4 => k_asm); (case z89kC => first | (refine' con_unit_le _ _ _ _ _ _ _ ?z89a1 ?z89a2; (case z89a1 => assumption); (case z89a2 => first | assumption | rfl))); (case z89k1 => k_asm); (case z89k3 => k_asm); (case z89k5 => k_asm); (case z89kK => first | exact rfl | assumption); (case z89kd => ktr_room); (case z89ku => ktr_units); intro _ _ _ _ _; (try dsimp only); (try k_fold)))
          k_with "call ref" => (k_here; k_dflt (refine' Con.use ?z90kC ?z90k1 ?z90k2 ?z90k3 ?z90k4 ?z90k5 ?z90kK ?z90kd ?z90ku ?_; (case z90k2 => k_asm); (case z90k4 => k_asm); (case z90kC => first | (refine' con_mended2 _ _ _ _ _ _ _ ?z90a1 ?z90a2 ?z90a3 ?z90a4; (case z90a1 => k_mem); (case z90a2 => assumption); (case z90a3 => omega); (case z90a4 => first | exact mended_twice _ | rfl))); (case z90k1 => k_asm); (case z90k3 => k_asm); (case z90k5 => k_asm); (case z90kK => first | exact rfl | assumption); (case z90kd => ktr_room); (case z90ku => ktr_units); intro _ _ _ _ _ _ _ _ _; (try dsimp only); (try k_fold)))
          k_with "call ref" => (k_here; k_dflt (refine' ConX.use ?z95kC ?z95k1 ?z95k2 ?z95k3 ?z95k4 ?z95k5 ?z95kK ?z95kd ?z95ku ?_ ?_; (case z95k2 => k_asm); (case z95k4 => k_asm); (case z95kC => first | (refine' con_text _ _ _ _ _ _ ?z95a1 ?z95a2 ?z95a3; (case z95a1 => k_mem); (case z95a2 => assumption); (case z95a3 => omega))); (case z95k1 => k_asm); (case z95k3 => k_asm); (case z95k5 => k_asm); (case z95kK => first | exact rfl | assumption); (case z95kd => ktr_room); (case z95ku => ktr_units); intro _ _ _ _ _ _ _ _ _ _; (try dsimp only); (try k_fold); rotate_left; (refine ⟨?_, ?_⟩); (try dsimp only); rotate_right))
          k_with "call ref" => (k_here; k_dflt (refine' ConX.use ?z96kC ?z96k1 ?z96k2 ?z96k3 ?z96k4 ?z96k5 ?z96kK ?z96kd ?z96ku ?_ ?_; (case z96k2 => k_asm); (case z96k4 => k_asm); (case z96kC => first | (refine' con_units2 _ _ _ _ _ _ _ ?z96a1 ?z96a2 ?z96a3 ?z96a4; (case z96a1 => k_mem); (case z96a2 => assumption); (case z96a3 => omega); (case z96a4 => assumption))); (case z96k1 => k_asm); (case z96k3 => k_asm); (case z96k5 => k_asm); (case z96kK => first | exact rfl | assumption); (case z96kd => ktr_room); (case z96ku => ktr_units); intro _ _ _ _ _ _ h9 tk9 _ _; (try dsimp only); (try k_fold); rotate_left; intro _ _ _ _ _ _ _ _ _ _ _ _; (try dsimp only); rotate_right))
          k_steps
          unfold WStop
          k_with_none
          k_with "LeaveT" => (k_dflt (refine' leaveT_ ?z77k1 ?z77k2 ?z77k3 ?_; (case z77k1 => k_asm); (case z77k2 => k_asm); (case z77k3 => first | assumption | exact KtsTurn.refl | exact KtsTurn.trans (by assumption) (by assumption)); intro _ _ _ _ _ _ _; (try dsimp only); (try k_fold)))
          k_with "callWith ref" => (k_here; k_dflt (refine' callWith_K ?z78k1 ?z78k2 ?_; (case z78k1 => k_asm); (case z78k2 => k_is); k_whole))
          k_with "call ref" => (k_here; k_dflt (refine' Con.use ?z79kC ?z79k1 ?z79k2 ?z79k3 ?z79k4 ?z79k5 ?z79kK ?z79kd ?z79ku ?_; (case z79k2 => k_asm); (case z79k4 => k_asm); (case z79kC => first | (refine' con_draw _ _ _ _ _ _ _ _ _ _ _ _ _ ?z79a1 ?z79a2 ?z79a3 ?z79a4 ?z79a5 ?z79a6 ?z79a7; (case z79a1 => k_updF); (case z79a2 => k_mem); (case z79a3 => assumption); (case z79a4 => assumption); (case z79a5 => assumption); (case z79a6 => omega); (case z79a7 => omega))); (case z79k1 => k_asm); (case z79k3 => k_asm); (case z79k5 => k_asm); (case z79kK => first | exact rfl | assumption); (case z79kd => ktr_room); (case z79ku => ktr_units); intro _ _ _ _ _ _ _ _ _ _; (try dsimp only); (try k_fold)))
          k_with "call ref" => (k_here; k_dflt (refine' Con.use ?z80kC ?z80k1 ?z80k2 ?z80k3 ?z80k4 ?z80k5 ?z80kK ?z80kd ?z80ku ?_; (case z80k2 => k_asm); (case z80k4 => k_asm); (case z80kC => first | (refine' con_fault _ _ _ _ _ _ _ _ ?z80a1 ?z80a2 ?z80a3 ?z80a4; (case z80a1 => k_mem); (case z80a2 => assumption); (case z80a3 => omega); (case z80a4 => omega))); (case z80k1 => k_asm); (case z80k3 => k_asm); (case z80k5 => k_asm); (case z80kK => first | exact rfl | assumption); (case z80kd => ktr_room); (case z80ku => ktr_units); intro _ _ _ _ _; (try dsimp only); (try k_fold)))
          k_with "call ref" => (k_here; k_dflt (refine' Con.use ?z81kC ?z81k1 ?z81k2 ?z81k3 ?z81k4 ?z81k5 ?z81kK ?z81kd ?z81ku ?_; (case z81k2 => k_asm); (case z81k4 => k_asm); (case z81kC => first | (refine' con_words _ _ _ _ _ _ ?z81a1 ?z81a2 ?z81a3; (case z81a1 => k_mem); (case z81a2 => assumption); (case z81a3 => omega))); (case z81k1 => k_asm); (case z81k3 => k_asm); (case z81k5 => k_asm); (case z81kK => first | exact rfl | assumption); (case z81kd => ktr_room); (case z81ku => ktr_units); intro _ _ _ _ _ _ _ _ _; (try dsimp only); (try k_fold)))
          k_with "binaryOp Mult ref int" => (k_here; k_dflt (refine' mul5 ?z82F ?z82N ?z82m ?_; (case z82F => k_asm); (case z82N => k_asm); (case z82m => k_mem)); intro _ _ _ _ _)
          k_with "call type:bytes" => (k_here; (with_reducible show wpAny _ _ (call (Value.type "bytes") [Value.ref _]) _ _ _); k_dflt (refine' KBa.make_K ?z83kbaF ?z83kbaN ?z83kbah ?z83kbal ?z83kbai ?z83kbar ?z83kban ?_; (case z83kbaF => k_asm); (case z83kbaN => k_asm); (case z83kbah => rfl); (case z83kbal => exact News.isList (by k_asm) (by k_mem)); (case z83kbai => first | assumption | exact .cons _ _ (.cons _ _ .nil)); (case z83kbar => assumption); (case z83kban => first | (show (2 : Nat) ≤ _; decide) | kba_size)); intro _ _ _ _ _ kbaIn; (have kbaS := KBa.sum_in kbaIn))
          k_with "call ref" => (k_here; k_dflt (refine' Con.use ?z84kC ?z84k1 ?z84k2 ?z84k3 ?z84k4 ?z84k5 ?z84kK ?z84kd ?z84ku ?_; (case z84k2 => k_asm); (case z84k4 => k_asm); (case z84kC => first | (refine' con_codes _ _ _ _ _ _ ?z84a1 ?z84a2 ?z84a3 ?z84a4; (case z84a1 => k_mem); (case z84a2 => assumption); (case z84a3 => omega); (case z84a4 => assumption))); (case z84k1 => k_asm); (case z84k3 => k_asm); (case z84k5 => k_asm); (case z84kK => first | exact rfl | assumption); (case z84kd => ktr_room); (case z84ku => ktr_units); intro _ _ _ _ _ _ _ _ _; (try dsimp only); (try k_fold)))
          k_with "call ref" => (k_here; k_dflt (refine' Con.use ?z85kC ?z85k1 ?z85k2 ?z85k3 ?z85k4 ?z85k5 ?z85kK ?z85kd ?z85ku ?_; (case z85k2 => k_asm); (case z85k4 => k_asm); (case z85kC => first | (refine' con_joined _ _ _ _ _ _ ?z85a1 ?z85a2 ?z85a3 ?z85a4; (case z85a1 => omega); (case z85a2 => omega); (case z85a3 => omega); (case z85a4 => omega))); (case z85k1 => k_asm); (case z85k3 => k_asm); (case z85k5 => k_asm); (case z85kK => first | exact rfl | assumption); (case z85kd => ktr_room); (case z85ku => ktr_units); intro _ _ _ _ _; (try dsimp only); (try k_fold)))
          k_with "call ref" => (k_here; k_dflt (refine' Con.use ?z86kC ?z86k1 ?z86k2 ?z86k3 ?z86k4 ?z86k5 ?z86kK ?z86kd ?z86ku ?_; (case z86k2 => k_asm); (case z86k4 => k_asm); (case z86kC => first | (refine' con_octets_be _ _ _ _ _ ?z86a1 ?z86a2; (case z86a1 => omega); (case z86a2 => omega))); (case z86k1 => k_asm); (case z86k3 => k_asm); (case z86k5 => k_asm); (case z86kK => first | exact rfl | assumption); (case z86kd => ktr_room); (case z86ku => ktr_units); intro _ _ _ _ _ _ _ _ _; (try dsimp only); (try k_fold)))
          k_with "call ref" => (k_here; k_dflt (refine' Con.use ?z87kC ?z87k1 ?z87k2 ?z87k3 ?z87k4 ?z87k5 ?z87kK ?z87kd ?z87ku ?_; (case z87k2 => k_asm); (case z87k4 => k_asm); (case z87kC => first | (refine' con_octets_le _ _ _ _ _ ?z87a1 ?z87a2; (case z87a1 => omega); (case z87a2 => omega))); (case z87k1 => k_asm); (case z87k3 => k_asm); (case z87k5 => k_asm); (case z87kK => first | exact rfl | assumption); (case z87kd => ktr_room); (case z87ku => ktr_units); intro _ _ _ _ _ _ _ _ _; (try dsimp only); (try k_fold)))
          k_with "call ref" => (k_here; k_dflt (refine' Con.use ?z88kC ?z88k1 ?z88k2 ?z88k3 ?z88k4 ?z88k5 ?z88kK ?z88kd ?z88ku ?_; (case z88k2 => k_asm); (case z88k4 => k_asm); (case z88kC => first | (refine' con_unit_be _ _ _ _ _ _ _ ?z88a1 ?z88a2; (case z88a1 => assumption); (case z88a2 => first | assumption | rfl))); (case z88k1 => k_asm); (case z88k3 => k_asm); (case z88k5 => k_asm); (case z88kK => first | exact rfl | assumption); (case z88kd => ktr_room); (case z88ku => ktr_units); intro _ _ _ _ _; (try dsimp only); (try k_fold)))
          k_with "call ref" => (k_here; k_dflt (refine' Con.use ?z89kC ?z89k1 ?z89k2 ?z89k3 ?z89k4 ?z89k5 ?z89kK ?z89kd ?z89ku ?_; (case z89k2 => k_asm); (case z89k4 => k_asm); (case z89kC => first | (refine' con_unit_le _ _ _ _ _ _ _ ?z89a1 ?z89a2; (case z89a1 => assumption); (case z89a2 => first | assumption | rfl))); (case z89k1 => k_asm); (case z89k3 => k_asm); (case z89k5 => k_asm); (case z89kK => first | exact rfl | assumption); (case z89kd => ktr_room); (case z89ku => ktr_units); intro _ _ _ _ _; (try dsimp only); (try k_fold)))
          k_with "call ref" => (k_here; k_dflt (refine' Con.use ?z90kC ?z90k1 ?z90k2 ?z90k3 ?z90k4 ?z90k5 ?z90kK ?z90kd ?z90ku ?_; (case z90k2 => k_asm); (case z90k4 => k_asm); (case z90kC => first | (refine' con_mended2 _ _ _ _ _ _ _ ?z90a1 ?z90a2 ?z90a3 ?z90a4; (case z90a1 => k_mem); (case z90a2 => assumption); (case z90a3 => omega); (case z90a4 => first | exact mended_twice _ | rfl))); (case z90k1 => k_asm); (case z90k3 => k_asm); (case z90k5 => k_asm); (case z90kK => first | exact rfl | assumption); (case z90kd => ktr_room); (case z90ku => ktr_units); intro _ _ _ _ _ _ _ _ _; (try dsimp only); (try k_fold)))
          k_with "compareOp NotEq ref ref" => (k_here; (with_reducible show wpAny _ _ (compareOp CmpOp.NotEq (Value.ref _) (Value.ref _)) _ _ _); k_dflt (refine ne_same (by is_list) (by is_list) (by assumption) (by assumption) (by ke_room) ?_))
          k_with "compareOp Eq bytes bytes" => (k_dflt (refine eq_bytesK (by kba_ints) (by kba_ints) ?_))
          k_with "compareOp NotEq bytes bytes" => (k_dflt (refine ne_bytesK (by kba_ints) (by kba_ints) ?_))
          k_with "compareOp NotEq ref ref" => (k_here; (with_reducible show wpAny _ _ (compareOp CmpOp.NotEq (Value.ref _) (Value.ref _)) _ _ _); k_dflt (refine' ne_given ?z94gN ?z94g1 ?z94g2 ?z94g3 ?z94g4 ?z94g5 ?z94g6 ?z94gu ?_; (case z94gN => k_asm); (case z94g1 => k_mem); (case z94g4 => k_mem); (case z94g2 => k_mem); (case z94g3 => assumption); (case z94g5 => k_mem); (case z94g6 => assumption); (case z94gu => ke_room); k_whole))
          k_with "call ref" => (k_here; k_dflt (refine' ConX.use ?z95kC ?z95k1 ?z95k2 ?z95k3 ?z95k4 ?z95k5 ?z95kK ?z95kd ?z95ku ?_ ?_; (case z95k2 => k_asm); (case z95k4 => k_asm); (case z95kC => first | (refine' con_text _ _ _ _ _ _ ?z95a1 ?z95a2 ?z95a3; (case z95a1 => k_mem); (case z95a2 => assumption); (case z95a3 => omega))); (case z95k1 => k_asm); (case z95k3 => k_asm); (case z95k5 => k_asm); (case z95kK => first | exact rfl | assumption); (case z95kd => ktr_room); (case z95ku => ktr_units); intro _ _ _ _ _ _ _ _ _ _; (try dsimp only); (try k_fold); rotate_left; (refine ⟨?_, ?_⟩); (try dsimp only); rotate_right))
          k_with "call ref" => (k_here; k_dflt (refine' ConX.use ?z96kC ?z96k1 ?z96k2 ?z96k3 ?z96k4 ?z96k5 ?z96kK ?z96kd ?z96ku ?_ ?_; (case z96k2 => k_asm); (case z96k4 => k_asm); (case z96kC => first | (refine' con_units2 _ _ _ _ _ _ _ ?z96a1 ?z96a2 ?z96a3 ?z96a4; (case z96a1 => k_mem); (case z96a2 => assumption); (case z96a3 => omega); (case z96a4 => assumption))); (case z96k1 => k_asm); (case z96k3 => k_asm); (case z96k5 => k_asm); (case z96kK => first | exact rfl | assumption); (case z96kd => ktr_room); (case z96ku => ktr_units); intro _ _ _ _ _ _ h9 tk9 _ _; (try dsimp only); (try k_fold); rotate_left; intro _ _ _ _ _ _ _ _ _ _ _ _; (try dsimp only); rotate_right))
          k_with "call type:list" => (k_here; (with_reducible show wpAny _ _ (call (Value.type _) [Value.ref _]) _ _ _); k_dflt (refine' list_copyI ?z97F ?z97N ?z97m ?z97i ?z97z ?_; (case z97F => k_asm); (case z97N => k_asm); (case z97m => k_mem); (case z97i => assumption); (case z97z => omega)); intro _ _ _ _ _ _)
          k_with "eval Name" => (k_here; (with_reducible show wpAny _ _ (eval (Expr.Name _ _) (envX _ _ _ _ _ _)) _ _ _); k_dflt (refine' nameX_F ?z98N ?z98c ?z98m ?z98d ?_ ?z98a ?z98b; (case z98a => rfl); (case z98b => rfl); (case z98N => k_asm); (case z98c => rfl); (case z98m => k_mem); (case z98d => k_asm); k_whole))
          k_dflt (refine' ConT.use (con_heard_text w _ _ _ _ _ _ (.head _) (dd := 60) (uu := 600) (us := mendedL us) ?C) ?k1 ?k2 ?k3 ?k4 ?k5 ?kXB ?kTB trivial ?kK ?kd ?ku ?_)
          case k2 => k_asm
          case k4 => k_asm
          case k1 => k_asm
          case k3 => k_asm
          case k5 => k_asm
          case kXB => assumption
          case kTB => assumption
          case kK => rfl
          case kd => ktr_room
          case ku => ktr_units
          case C =>
            (repeat (rename News _ _ _ _ => xx9; clear xx9)); (repeat (rename Fr _ _ _ _ => xx9; clear xx9)); (repeat (rename Frag.In _ _ => xx9; clear xx9)); (repeat (rename StrsAre _ _ => xx9; clear xx9)); (repeat (rename Kp _ _ _ => xx9; clear xx9)); (repeat (rename DueAt _ _ _ _ => xx9; clear xx9)); (repeat (rename (_ < _ ∧ _) => xx9; clear xx9)); (repeat (rename Below _ _ _ _ => xx9; clear xx9)); (repeat (rename Top _ _ _ _ _ _ => xx9; clear xx9)); (repeat (rename CodeHd _ _ _ => xx9; clear xx9)); (repeat (rename KtsTurn _ _ _ => xx9; clear xx9)); (try clear hm1); (try clear hm2); (try clear hm3); (try clear hm4); (try clear hm5); (try clear hm6); (try clear hTPl); (try clear h2l); (try clear hPl); (try clear hP); (try clear hT); (try clear hS); (try clear CH); (try clear CH2); (try clear l1); (try clear hPT); (try clear hne); (try clear hTL); (try clear hTL2); (try clear hsub2); (try clear hfd); (try clear hp9); (try clear hll); (try clear hUn1); (try clear hlen); (try clear hi); (try clear hPT')
            unfold ConX TextP TextPE
            intro loose mean mg mb dp ux gd cn cs a ccd cl outer A₀ base h₀ L m s Q E B F X N T hk hdp hun hret herr
            refine wpAny_call ?_
            k_dflt (refine' kla_code ?k1 ?k2 ?k3 ?k4 ?k5 ?kA ?kF ?kK ?k6 ?k7 ?k8 ?k9 ?kB ?_ ?c2 ?c3 ?c4 ?c5; (case kA => exact rfl); (case kF => exact rfl); (case kK => assumption); (case k1 => k_asm); (case k2 => k_asm); (case k3 => k_asm); (case k4 => k_asm); (case k5 => k_asm); (case k6 => k_mem); (case k7 => exact codeRec_news (by k_asm) (by k_mem) (by assumption) (by assumption)); (case k8 => ktr_room); (case k9 => exact rfl); (case c5 => decide); (case kB => exact locs rfl); (case c2 => exact rfl); (case c3 => exact rfl); (case c4 => exact rfl); k_whole; intro g' L' h' FG' F' N' B' X' T'; (try dsimp only); (try k_fold))
            replace F' : Fr g' L' h' (fun _ => none) := fr_eq F' (by rfl)
            try generalize s.toks + List.length _ = tk0
            have hlen9 := textL_len (mendedL us) (mendedL us).length
            k_steps
            · rename IntsAre _ (textL (mendedL us) (mendedL us).length) => hvt9
              rename ∀ p ∈ (_, listOf _ _) :: _, _ < _ => hly9
              exact hret ‹_› _ _ _ hvt9 (fun p hp => hly9 p (.tail _ hp)) _ _ (by k_asm) (news_sub (a := (_, _) :: (_, _) :: _) (by k_asm) sub_two)
            · refine leave_onX (by k_asm) (by k_asm) (by assumption) (by assumption) fun h' R' U' => ?_
              exact herr.1 _ _ ‹_› ‹_› ‹_› _ _ _ _ _ _ R' FG' U'
            · refine leave_onX (by k_asm) (by k_asm) (by assumption) (by assumption) fun h' R' U' => ?_
              exact herr.2 _ _ _ _ ‹_› ‹_› ‹_› ‹_› _ _ _ _ _ _ R' FG' U'
          refine ⟨?_, ?_, ?_⟩
          · intro hall l vs' n' hvs' hlt' tp t9' htp g2 h2 tk2 K2 B2 X2 T2 F2 N2
            rw [text_codes (us := mendedL us) hokD] at hvs'
            k_steps
            · exact ⟨rfl, _, _, _, _, _, _, _, _, rfl, ⟨K2, B2, X2, T2⟩, (by k_asm), (by first | walk_at "kp" | (intro y hy; simp only [List.mem_cons, not_or, List.not_mem_nil, not_false_eq_true, and_true] at hy; by_cases hq1 : y = Str.ofString "codes"; (· subst hq1; rfl); simp only [setN, setO, hy, hq1, if_false])), hcw, news_sub (by k_asm) (sub_cd (x := [_, _, _, _, _, _, _])), all_cons (by k_ne) (all_cons (by k_ne) (all_cons (by k_ne) (all_cons (by k_ne) (all_cons (by k_ne) (all_cons (by k_ne) (all_cons (by k_ne) (all_cons (by k_ne) (fun p hp => Nat.ne_of_lt (hnC p hp)))))))))⟩
            · rename List.find? _ _ = some _ => hfo
              rw [hfn] at hfo
              cases hfo
          · intro i u9' hi' hall hin
            have := mended_in hus i hi'
            exact absurd hin (by simp only [inR, this.1, this.2, decide_true, Bool.and_self]; decide)
          · intro i u9' v9' T9' hi' hall hin hf'
            exact absurd (hokD i hi') hf'
end Nur
end
-- PZ
example : True := by w_top off; k_with_none; trivial
namespace Nz
open Nw Nur Nac Nge
theorem kts_top {h₀ h₀' h : Heap} {L : Addr} {m : Str → Option Value} {news : Led} (K : KtsTurn (frs []) h₀ h₀') (F : Fr h₀' L h m) (N : News h₀' L h news) : Fr h₀ L h m ∧ News h₀ L h news := by
  have same : ∀ b o, h₀.get? b = some o → h₀'.get? b = some o := fun b o e => K.other b o e (fun hm => nomatch hm)
  refine ⟨⟨F.ns, fun b o e => F.keep b o (same b o e), K.size ▸ F.above⟩, fun p hp => ⟨(N p hp).1, (N p hp).2.1, ?_⟩⟩
  cases q : h₀.get? p.1 with
  | none => rfl
  | some o => have := (N p hp).2.2; rw [same _ _ q] at this; cases this
theorem ConT.conv {w : World} {f : Addr} {args : List Value} {dd uu : Nat} {n1 n2 : Led} {S : Heap → Prop} {P1 P2 : Kont} (C : ConT w f args dd uu n1 S P1) (hs : ∀ p ∈ n1, p ∈ n2)
    (hP : ∀ k : Value → Led → Prop, (∀ r a b, (∀ p ∈ a, p ∈ b) → k r a → k r b) → P2 k → P1 k) : ConT w f args dd uu n2 S P2 := by
  intro loose mean mg mb dp un gd cn cs a ccd cl outer A₀ base h₀ L m s Q E B F X N T XB TB hS hk hdp hun hret
  refine C loose mean mg mb dp un gd cn cs a ccd cl outer A₀ base h₀ L m s Q E B F X (fun p hp => N p (hs p hp)) T XB TB hS hk hdp hun (hP _ (fun r x y hxy hx h₀' h' tk' K' B' X' T' F' N' => hx h₀' h' tk' K' B' X' T' F' fun p hp => N' p (hxy p hp)) hret)
theorem take_le {ys : List Value} {f : Int → Int} {l : List Int} (h : IntsAre ys (List.map f (List.take 60 l))) : ∃ ns, IntsAre ys ns ∧ ns.length ≤ 60 := ⟨_, h, by rw [List.length_map, List.length_take]; exact Nat.min_le_left _ _⟩
theorem law_perm {a b c d e : Addr × Obj} : ∀ p ∈ [e, d, a, b, c], p ∈ [a, b, c, d, e] := fun p hp => by
  simp only [List.mem_cons, List.not_mem_nil, or_false] at hp ⊢
  rcases hp with h | h | h | h | h <;> simp [h]
theorem law_perm2 {a b c d e : Addr × Obj} : ∀ p ∈ [a, b, c, d, e], p ∈ [e, d, a, b, c] := fun p hp => by
  simp only [List.mem_cons, List.not_mem_nil, or_false] at hp ⊢
  rcases hp with h | h | h | h | h <;> simp [h]
theorem con_units_law (w : World) (TP D0 D1 : Addr) (t : Tok) (n : Nat) (ys : List Value) (ns : List Int) (o1 : Obj) (l2 : @LT.lt Nat instLTNat 258 D1 ∧ @LT.lt Nat instLTNat 253 D1) (l0 : @Ne Nat D1 D0 ∧ @Ne Nat 258 D0 ∧ @Ne Nat 253 D0) (l1 : @LT.lt Nat instLTNat D0 TP ∧ @LT.lt Nat instLTNat D1 TP ∧ @LT.lt Nat instLTNat 258 TP ∧ @LT.lt Nat instLTNat 253 TP) (hi : IntsAre ys ns) (hlen : ns.length ≤ 60) :
    ConT w 256 [.ref TP] 400 4000 [(TP, listOf [Value.ref D0, .int 0 t].toArray n), (D0, lst ys), (D1, o1), (258, tabObj #[]), (253, tabObj #[])] (fun b => CodeHd b 262 258 ∧ CodeHd b 255 253) (fun k => ∀ T1 T2 p' t' n', 0 ≤ p' → k (.bool true) [(TP, listOf [Value.ref D0, .int p' t'].toArray n'), (D0, lst ys), (D1, o1), (258, tabObj T1), (253, tabObj T2)]) := by
  obtain ⟨a1, a2, a3, a4⟩ := l1
  obtain ⟨b1, b2⟩ := l2
  obtain ⟨c1, c2, c3⟩ := l0
  refine ConT.conv (con_units_right w [(D0, lst ys), (D1, o1)] TP D0 t n _ ys ns ?_ ?_ ?_ ?_ ?_ (.head _) hi hlen) law_perm (fun k hk h T1 T2 p' t' n' hp => hk _ _ _ law_perm2 (h T1 T2 p' t' n' hp))
  · intro p hp
    rcases List.mem_cons.mp hp with rfl | hp
    · exact Ne.symm c2
    · obtain rfl := List.mem_singleton.mp hp
      exact Nat.ne_of_gt b1
  · intro p hp
    rcases List.mem_cons.mp hp with rfl | hp
    · exact Ne.symm c3
    · obtain rfl := List.mem_singleton.mp hp
      exact Nat.ne_of_gt b2
  · exact Nat.ne_of_gt a3
  · exact Nat.ne_of_gt a4
  · intro p hp
    rcases List.mem_cons.mp hp with rfl | hp
    · exact Nat.ne_of_lt a1
    · obtain rfl := List.mem_singleton.mp hp
      exact Nat.ne_of_lt a2
theorem law : PySem.Challenge.rw_nt0006_01.Holds := hd (by
  k_with_none
  k_with "call ref" => (k_here; k_dflt (refine' Con.use ?z99kC ?z99k1 ?z99k2 ?z99k3 ?z99k4 ?z99k5 ?z99kK ?z99kd ?z99ku ?_; (case z99k2 => k_asm); (case z99k4 => k_asm); (case z99kC => first | exact con_order_right _ _ _ _ _ _ _ _ _ _ (all_cons (by k_ne) (all_cons (by k_ne) (all_cons (by k_ne) (all_cons (by k_ne) (fun _ h => nomatch h))))) (by k_mem) (by assumption) (by assumption) (by assumption) | exact con_marks_right _ _ _ _ _ _ _ _ _ _ (all_cons (by k_ne) (all_cons (by k_ne) (all_cons (by k_ne) (all_cons (by k_ne) (fun _ h => nomatch h))))) (by k_mem) (by assumption) (by assumption) (by assumption)); (case z99k1 => k_asm); (case z99k3 => k_asm); (case z99k5 => k_asm); (case z99kK => first | exact rfl | assumption); (case z99kd => ktr_room); (case z99ku => ktr_units); intro _ _ _ _ _ _ _ _; (try dsimp only); (try k_fold)))
  k_with "call ref" => (k_here; k_dflt (refine' Con.use ?z100kC ?z100k1 ?z100k2 ?z100k3 ?z100k4 ?z100k5 ?z100kK ?z100kd ?z100ku ?_; (case z100k2 => k_asm); (case z100k4 => k_asm); (case z100kC => first | exact con_guess_right _ _ _ _ _ _ _ _ _ _ (all_cons (by k_ne) (all_cons (by k_ne) (all_cons (by k_ne) (all_cons (by k_ne) (fun _ h => nomatch h))))) (by k_mem) (by assumption) (by assumption) (by assumption)); (case z100k1 => k_asm); (case z100k3 => k_asm); (case z100k5 => k_asm); (case z100kK => first | exact rfl | assumption); (case z100kd => ktr_room); (case z100ku => ktr_units); intro _ _ _ _; (try dsimp only); (try k_fold)))
  delta hdT
  dsimp only [mk3]
  k_go0
  all_goals try k_fold
  k_with "call ref" => (k_dflt (refine WStop.go ?_))
  k_with "call ref" => (k_here; k_dflt (refine' Con.use ?z99kC ?z99k1 ?z99k2 ?z99k3 ?z99k4 ?z99k5 ?z99kK ?z99kd ?z99ku ?_; (case z99k2 => k_asm); (case z99k4 => k_asm); (case z99kC => first | exact con_order_right _ _ _ _ _ _ _ _ _ _ (all_cons (by k_ne) (all_cons (by k_ne) (all_cons (by k_ne) (all_cons (by k_ne) (fun _ h => nomatch h))))) (by k_mem) (by assumption) (by assumption) (by assumption) | exact con_marks_right _ _ _ _ _ _ _ _ _ _ (all_cons (by k_ne) (all_cons (by k_ne) (all_cons (by k_ne) (all_cons (by k_ne) (fun _ h => nomatch h))))) (by k_mem) (by assumption) (by assumption) (by assumption)); (case z99k1 => k_asm); (case z99k3 => k_asm); (case z99k5 => k_asm); (case z99kK => first | exact rfl | assumption); (case z99kd => ktr_room); (case z99ku => ktr_units); intro _ _ _ _ _ _ _ _; (try dsimp only); (try k_fold)))
  k_with "call ref" => (k_here; k_dflt (refine' Con.use ?z100kC ?z100k1 ?z100k2 ?z100k3 ?z100k4 ?z100k5 ?z100kK ?z100kd ?z100ku ?_; (case z100k2 => k_asm); (case z100k4 => k_asm); (case z100kC => first | exact con_guess_right _ _ _ _ _ _ _ _ _ _ (all_cons (by k_ne) (all_cons (by k_ne) (all_cons (by k_ne) (all_cons (by k_ne) (fun _ h => nomatch h))))) (by k_mem) (by assumption) (by assumption) (by assumption)); (case z100k1 => k_asm); (case z100k3 => k_asm); (case z100k5 => k_asm); (case z100kK => first | exact rfl | assumption); (case z100kd => ktr_room); (case z100ku => ktr_units); intro _ _ _ _; (try dsimp only); (try k_fold)))
  k_steps
  unfold WStop
  k_with_none
  k_with "call ref" => (k_here; k_dflt (refine' Con.use ?z99kC ?z99k1 ?z99k2 ?z99k3 ?z99k4 ?z99k5 ?z99kK ?z99kd ?z99ku ?_; (case z99k2 => k_asm); (case z99k4 => k_asm); (case z99kC => first | exact con_order_right _ _ _ _ _ _ _ _ _ _ (all_cons (by k_ne) (all_cons (by k_ne) (all_cons (by k_ne) (all_cons (by k_ne) (fun _ h => nomatch h))))) (by k_mem) (by assumption) (by assumption) (by assumption) | exact con_marks_right _ _ _ _ _ _ _ _ _ _ (all_cons (by k_ne) (all_cons (by k_ne) (all_cons (by k_ne) (all_cons (by k_ne) (fun _ h => nomatch h))))) (by k_mem) (by assumption) (by assumption) (by assumption)); (case z99k1 => k_asm); (case z99k3 => k_asm); (case z99k5 => k_asm); (case z99kK => first | exact rfl | assumption); (case z99kd => ktr_room); (case z99ku => ktr_units); intro _ _ _ _ _ _ _ _; (try dsimp only); (try k_fold)))
  k_with "call ref" => (k_here; k_dflt (refine' Con.use ?z100kC ?z100k1 ?z100k2 ?z100k3 ?z100k4 ?z100k5 ?z100kK ?z100kd ?z100ku ?_; (case z100k2 => k_asm); (case z100k4 => k_asm); (case z100kC => first | exact con_guess_right _ _ _ _ _ _ _ _ _ _ (all_cons (by k_ne) (all_cons (by k_ne) (all_cons (by k_ne) (all_cons (by k_ne) (fun _ h => nomatch h))))) (by k_mem) (by assumption) (by assumption) (by assumption)); (case z100k1 => k_asm); (case z100k3 => k_asm); (case z100k5 => k_asm); (case z100kK => first | exact rfl | assumption); (case z100kd => ktr_room); (case z100ku => ktr_units); intro _ _ _ _; (try dsimp only); (try k_fold)))
  rename News _ _ _ [(_, _), (_, lst _), (_, _), (258, _), (253, _)] => N7
  rename IntsAre _ (List.map _ _) => hI7
  rename _ < _ ∧ _ => hLt
  obtain ⟨ns7, hI8, hlen7⟩ := take_le hI7
  k_dflt (refine' ConT.use (con_units_law _ _ _ _ _ _ _ _ _ (by assumption) (by assumption) (by assumption) hI8 hlen7) ?k1 ?k2 ?k3 ?k4 ?k5 ?kXB ?kTB ?kS ?kK ?kd ?ku ?_)
  case k2 => k_asm
  case k4 => k_asm
  case k1 => k_asm
  case k3 => k_asm
  case k5 => k_asm
  case kXB => assumption
  case kTB => assumption
  case kS => exact ⟨by assumption, by assumption⟩
  case kK => rfl
  case kd => ktr_room
  case ku => ktr_units
  intro T1 T2 p9 t9 n9 hp9 g9 h9 tk9 K9 B9 X9 P9 F9 N9
  obtain ⟨F9, N9⟩ := kts_top K9 F9 N9
  clear B9 X9 P9 K9 N7 hI7
  k_steps)
end Nz
end Mine
theorem PySem.Challenge.cw_nt0006_01_holds : PySem.Challenge.rw_nt0006_01.Holds := by
  exact Mine.Nz.law
