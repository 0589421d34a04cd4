import Derived.WalkKit
import Derived.Lib.Hide
import Derived.Deep.LoopGhost
import Derived.Deep.MidRow
import Derived.BigQuiet
import Derived.Laws.EntriesVeiled
import Derived.Deep.RegionLaw
namespace Go.Proofs.YtphkhfdmlcnoeaaGreatDoor
set_option linter.unusedVariables false
set_option linter.unusedSimpArgs false
set_option maxRecDepth 1000000
set_option maxHeartbeats 32000000
open Go.RowKit
section
theorem Q1 {p : Prop} (h : p := by decide) : p := h
theorem Q2 {p : Prop} (h : p := by omega) : p := h
theorem Q5 {p : Prop} (h : p := by kernel_rfl) : p := h
theorem Qn {p : Prop} (h : p := by simp) : p := h
theorem Qx {p : Prop} (h : p := by assumption) : p := h
theorem Q3 {p : Prop} (h : p) : Hid p := Lib.hid h
structure Hq(q:Prop):Prop where
  o:q
universe u
variable{α:Sort u}
abbrev mc1(x:α:=by exact (.cons rfl rfl (.cons rfl rfl (.cons rfl rfl (.cons rfl rfl .nil))))):α:=x
abbrev mc2(x:α:=by exact (.cons rfl rfl (.cons rfl rfl (.cons rfl rfl (.cons rfl (by go_num) .nil))))):α:=x
abbrev mc3(x:α:=by exact (Ag.cons (Ag.cons (Ag.nil rfl rfl) rfl) rfl)):α:=x
abbrev mc4(x:α:=by exact .inr rfl):α:=x
abbrev mc5(x:α:=by exact (ZO rfl rfl Q1 rfl rfl)):α:=x
abbrev mc6(x:α:=by exact (X9 (xs:=[]) (vs:=[]) (v:=.agg #[.int .i64 0,.int .i64 0]) rfl rfl Q1 rfl rfl (fun w=>run_build w _ _ _ Q5))):α:=x
abbrev mc8(x:α:=by exact Ag.cons (Ag.cons (Ag.cons (Ag.nil ha.sz ha.df) (by exact ha.at_ rfl)) (by exact ha.at_ rfl)) (by exact ha.at_ rfl)):α:=x
abbrev Zi(x:α:=by exact (Qe.sel [0] Q1 rfl)):α:=x
abbrev ZP(x:α:=by first|exact Nat.le_refl _|(simp only[QL];omega)):α:=x
abbrev QvA(x:α:=by exact (QV rfl rfl Q1 rfl rfl (by first|exact fun w hw=>hw.range_blk 0 rfl|exact fun w hw=>hw.range_blk 1 rfl|exact fun w hw=>hw.range_blk 2 rfl|exact fun w hw=>hw.range_blk 3 rfl|exact fun w hw=>hw.range_blk 4 rfl|exact fun w hw=>hw.range_blk 5 rfl|exact fun w hw=>hw.range_old Qx Qn) (by first|rfl|exact X4 _))):α:=x
abbrev VN(x:α:=by exact (Qe.sel [0,1] Q1 rfl)):α:=x
abbrev Vc(x:α:=by go_ret;exact⟨by rw[<- HF.out];simp [QR, *],XF HB1.out (Up.b _)⟩):α:=x
abbrev Qwy(x:α:=by exact [.string ⟨name.toArray⟩,.int .i64 9,.slice Ab bs.length cb,.int .i64 size,.bool big,.int .i64 mn,.int .i64 mx,.int .i64 stop,.int .i64 count,.int .i64 elem,.slice An names.length cn,.slice Ap parts.length cp]):α:=x
abbrev QvH(x:α:=by exact (.cells ([.string ⟨name.toArray⟩,.int .i64 8,.slice Ab bs.length cb,.int .i64 size,.bool big,.int .i64 mn,.int .i64 mx,.int .i64 stop,.int .i64 count,.int .i64 elem,.slice An names.length cn,.slice (some ⟨bp,op,none⟩) parts.length cp]:List Value).toArray 65 (0,0))):α:=x
abbrev Q23(x:α:=by exact (Qg (f:=126) rfl rfl Q1 rfl rfl (fun w hw=>QY w))):α:=x
abbrev Q9E(x:α:=by exact fun(w:World) (Ab An Ap:Option Addr) (cb cn cp:Nat) (hw:Z6 w z B g F A c xs n) (hru:RuB w B (Qj F k) Ab cb An cn Ap cp) (hval:VIn w B v d p)=>Q2a hw hv hk hru hval hd1 hd2):α:=x
abbrev Xk(x:α:=by simp only[QL]):α:=x
abbrev Q7B(x:α:=by exact [.blk g (.cells ([.slice (some ⟨bf,of,none⟩) nn cf,.slice A xs.length c,.int .i64 (n:Int)]:List Value).toArray 77 (0,0)),.row A xs.length c 5 1 (bv xs)]):α:=x
abbrev ZE(x:α:=by exact (Jl rfl rfl Q1 rfl rfl)):α:=x
abbrev Q7p(x:α:=by exact (fun w hw=>hw.rd_blk 0 rfl rfl)):α:=x
abbrev Xs(x:α:=by exact (Wd.start [] W)):α:=x
abbrev Qb0(x:α:=by exact [(0,.pointer (some ⟨g,0,none⟩)),(1,.int .i64 k),(2,.agg [.int .i64 dk,.int .i64 dn,.slice Abv dbs.length cbv,.slice Anv dns.length cnv,.slice Apv p.len cpv].toArray)]):α:=x
abbrev Q6g(x:α:=by exact (Yk rfl rfl Q1 rfl rfl rfl Tryz.underlying3 hcv)):α:=x
abbrev Qqc(x:α:=by exact (QP rfl rfl Q1 rfl rfl (by first|exact fun w hw=>hw.cell_blkL 0 rfl rfl|exact fun w hw=>hw.cell_blkL 1 rfl rfl|exact fun w hw=>hw.cell_blkL 2 rfl rfl|exact fun w hw=>hw.cell_blkL 3 rfl rfl|exact fun w hw=>hw.cell_blkL 4 rfl rfl|exact fun w hw=>hw.cell_blkL 5 rfl rfl|exact fun w hw=>hw.cell_old Qx Qn|exact fun w hw=>hw.cell_range Qx rfl Qn))):α:=x
abbrev Q7l(x:α:=by exact (QvN (k:=.i64) rfl rfl Q1 rfl rfl rfl (IntWalk.i64_in _ Q2))):α:=x
abbrev Q2i(x:α:=by exact (QS 0 rfl rfl rfl rfl rfl rfl rfl Qn)):α:=x
abbrev QiF(x:α:=by exact (2,.pointer (some ⟨b2,0,none⟩))):α:=x
abbrev Qwe(x:α:=by exact (1,.pointer (some ⟨b1,0,none⟩))):α:=x
abbrev QjS(x:α:=by exact [.blk b3 (.cells ([.string ⟨name.toArray⟩,.int .i64 kind,sb,.int .i64 size,.bool big,.int .i64 mn,.int .i64 mx,.int .i64 stop,.int .i64 count,.int .i64 elem,sn,sp]:List Value).toArray 65 (0,0)),.blk g (.cells ([.slice Af nn cf,.slice As nn cs,.slice Ad nd cd,.int .i64 ((p+i:Nat):Int)]:List Value).toArray 60 (0,0))]):α:=x
abbrev Qwr(x:α:=by exact [.string ⟨name.toArray⟩,.int .i64 6,.slice Ab bs.length cb,.int .i64 size,.bool big,.int .i64 mn,.int .i64 mx,.int .i64 stop,.int .i64 count,.int .i64 elem,.slice An names.length cn,.slice Ap parts.length cp]):α:=x
abbrev Q6B(x:α:=by exact (Q9F (f:=122) (fun _:Option Addr×Nat=>.tuple #[]) (fun _=>True) _ rfl rfl rfl rfl (fun w hw=>QtW _ _ Q2 hw))):α:=x
abbrev Jk(x:α:=by exact (Kv rfl rfl Q1 rfl rfl)):α:=x
abbrev QwK(x:α:=by exact (fun w hw=>⟨by rw[HZ.out],hw.k.below⟩)):α:=x
abbrev J1(x:α:=by exact (Ag.cons (Ag.nil rfl rfl) rfl)):α:=x
abbrev Qem(x:α:=by exact (.cons rfl rfl (.cons rfl rfl mc1))):α:=x
abbrev Q4a(x:α:=by exact (fun w=>run_build w _ _ _ Q5)):α:=x
abbrev Qwm(x:α:=by exact (.cons rfl rfl (.cons rfl rfl .nil))):α:=x
abbrev Z4(x:α:=by exact (Qe.rfl_)):α:=x
abbrev Q5c(x:α:=by simp [Value.oneCell']):α:=x
abbrev Q6b(x:α:=by exact (some ⟨g,0,none⟩)):α:=x
abbrev Q0F(x:α:=by exact (Qe.sel [1,2] Q1 rfl)):α:=x
abbrev QvD(x:α:=by exact (Zp rfl rfl Q1 rfl rfl rfl Q2)):α:=x
abbrev YW(x:α:=by exact (RsV.blk 1 rfl rfl rfl)):α:=x
abbrev Kt(x:α:=by exact (HG.out.on hw.k.below)):α:=x
abbrev Y5(x:α:=by exact (Qe.sel [0,1,2] Q1 rfl)):α:=x
abbrev Qq8(x:α:=by exact (5,.pointer (some ⟨b5,0,none⟩))):α:=x
abbrev Qt4(x:α:=by exact (0,.agg (ruC r (.slice Ab r.bs.length cb) (.slice An r.names.length cn) (.slice Ap r.parts.length cp)).toArray)):α:=x
abbrev Qn9(x:α:=by exact (Qg (f:=127) rfl rfl Q1 rfl rfl (fun w hw=>Xv w))):α:=x
abbrev Q6u(x:α:=by exact (Qe.sel [0,2] Q1 rfl)):α:=x
abbrev Qp5(x:α:=by exact (XZ rfl rfl Q1 rfl rfl rfl (by first|exact decide_eq_true Q2|rfl))):α:=x
abbrev Qiu(x:α:=by exact Q3 (show RES=.ok (J0 F (Qj F k) d p,n+1) by rw[<- hres];exact Qbi hfit (by unfold VQ;rw[if_neg Q2,if_neg Q2,if_neg Q2]) (Q3I Q2 Q2))):α:=x
abbrev Q2b(x:α:=by exact Q3 (show Rd W B 1 Ab bs.length (bv bs) from HRU.out.b)):α:=x
abbrev QpU(x:α:=by exact (.cons rfl rfl (.cons rfl rfl (.cons rfl (by go_num) .nil)))):α:=x
abbrev Q9p(x:α:=by exact (Qe.sel [1] Q1 rfl)):α:=x
abbrev QdX(x:α:=by exact Qb mc4 rfl (.tmp rfl) QwK):α:=x
abbrev Q57(x:α:=by exact (QS 1 rfl rfl rfl rfl (QmF _) (X4 _) rfl (by simp [X4]))):α:=x
abbrev Qfa(x:α:=by exact (3,.pointer (some ⟨b3,0,none⟩))):α:=x
abbrev Q4T(x:α:=by exact (.cells [.slice (some ⟨b,o,none⟩) n c].toArray 24 (0,0))):α:=x
abbrev Yf(x:α:=by exact (QS 1 rfl rfl rfl rfl rfl rfl rfl Qn)):α:=x
abbrev Qrp(x:α:=by exact (Qg (f:=91) rfl rfl Q1 rfl rfl (fun w hw=>XJ _ _ w))):α:=x
abbrev Qgk(x:α:=by exact (.cons rfl rfl (.cons rfl rfl (.cons rfl rfl mc2)))):α:=x
abbrev Quz(x:α:=by exact ⟨name,kind,bs,size,big,mn,mx,stop,count,elem,names,parts⟩):α:=x
abbrev Qwg(x:α:=by exact (.cells ([.string ⟨name.toArray⟩,.int .i64 1,.slice Ab bs.length cb,.int .i64 size,.bool big,.int .i64 mn,.int .i64 mx,.int .i64 stop,.int .i64 count,.int .i64 elem,.slice An names.length cn,.slice Ap parts.length cp]:List Value).toArray 65 (0,0))):α:=x
abbrev Q51(x:α:=by exact Q3 (Qtw HN6.out HALL.out (by have:=HD.out;rwa [List.take_of_length_le (by rw[HL.out];omega)] at this))):α:=x
abbrev Q50(x:α:=by exact Qb mc4 rfl (.tmp rfl) (fun w hw=>⟨rfl,hw.k.below⟩)):α:=x
abbrev Q7k(x:α:=by exact J4 (XE _ _ _ rfl rfl rfl (fun w hw=>Q0O hw (fun w' hw'=>⟨p+i,HE.out,rfl,hw'.k⟩))) rfl Q1 (fun i=>i.elim)):α:=x
abbrev Q8w(x:α:=by exact (some ⟨bf,of,none⟩)):α:=x
abbrev Qrr(x:α:=by exact (Qg (f:=125) rfl rfl Q1 rfl rfl (fun w hw=>Xj w))):α:=x
abbrev QcE(x:α:=by exact (some ⟨br,0,none⟩)):α:=x
abbrev J7(x:α:=by exact (Qe.sel [2,0] Q1 rfl)):α:=x
abbrev Qns(x:α:=by exact (Qe.sel [1,3] Q1 rfl)):α:=x
abbrev Q8q(x:α:=by exact (.cells (ruC r (.slice Ab r.bs.length cb) (.slice An r.names.length cn) (.slice Ap r.parts.length cp)).toArray 65 (0,0))):α:=x
abbrev ZR(x:α:=by simp only[QL];omega):α:=x
abbrev JH(x:α:=by exact (YL rfl rfl Q1 rfl rfl)):α:=x
abbrev Qv0(x:α:=by exact (Qg (f:=124) rfl rfl Q1 rfl rfl (fun w hw=>X8 w))):α:=x
abbrev QuW(x:α:=by exact (Qg (f:=123) rfl rfl Q1 rfl rfl (fun w hw=>X2 w))):α:=x
abbrev Qhj(x:α:=by exact (.cells ([.int .i64 0,.int .i64 0,.slice none 0 0,.slice none 0 0,.slice none 0 0]:List Value).toArray 30 (0,0))):α:=x
abbrev JF(x:α:=by exact ⟨h3,.inl ⟨x,h1,by rw[h2]⟩⟩):α:=x
abbrev QuA(x:α:=by exact [.string ⟨name.toArray⟩,.int .i64 5,.slice Ab bs.length cb,.int .i64 size,.bool big,.int .i64 mn,.int .i64 mx,.int .i64 stop,.int .i64 count,.int .i64 elem,.slice An names.length cn,.slice Ap parts.length cp]):α:=x
abbrev Qgf(x:α:=by exact (Kc rfl rfl Q1 rfl rfl rfl (by first|assumption|rfl))):α:=x
abbrev Qdj(x:α:=by exact (Qjq rfl rfl Q1 rfl rfl rfl (by rw[ZH,ZH];simp only[Qbl,List.length_take,List.length_append,List.length_cons,List.length_nil]<;>omega))):α:=x
abbrev Q1l(x:α:=by exact Q3 (show Below w.heap.size w W1 by rw[<- hW1];exact Qvn _ _ _ _)):α:=x
abbrev Q6o(x:α:=by exact (Q7W (k:=.i64) rfl rfl Q1 rfl rfl rfl (IntWalk.i64_in _ Q2))):α:=x
abbrev Q4Z(x:α:=by first|assumption|decide|exact decide_eq_true Q2|exact decide_eq_false Q2|rfl):α:=x
abbrev Q93(x:α:=by exact (FC.new (w.alloc (.cells #[.int .i64 d.k,.int .i64 d.n,.slice Ab nb cb,.slice An nn cn,.slice Ap p.len cp] 30)) 0 0).on hb2):α:=x
abbrev V7(x:α:=by exact (some ⟨b,0,none⟩)):α:=x
abbrev Q2W(x:α:=by exact (Q0L rfl rfl Q1 rfl rfl rfl (by first|exact decide_eq_true Q2|rfl))):α:=x
abbrev Q8L(x:α:=by exact (some ⟨bs,0,none⟩)):α:=x
abbrev XU(x:α:=by exact (Nat.le_refl _)):α:=x
abbrev Y1(x:α:=by exact (Zl rfl rfl rfl rfl rfl Qn)):α:=x
abbrev Ze(x:α:=by exact (Ag.cons mc3 rfl)):α:=x
abbrev Qkw(x:α:=by exact (XZ rfl rfl Q1 rfl rfl rfl (by first|assumption|exact decide_eq_true Q2|exact decide_eq_false Q2|rfl))):α:=x
abbrev JR(x:α:=by exact (Nat.zero_le _)):α:=x
abbrev QqJ(x:α:=by exact (.cells ([.string ⟨name.toArray⟩,.int .i64 2,sb,.int .i64 (sz:Int),.bool big,.int .i64 mn,.int .i64 mx,.int .i64 stop,.int .i64 count,.int .i64 elem,sn,sp]:List Value).toArray 65 (0,0))):α:=x
abbrev V6(x:α:=by exact (0,.agg #[.slice A n c])):α:=x
abbrev QuN(x:α:=by exact (.cells ([.string ⟨name.toArray⟩,.int .i64 3,sb,.int .i64 size,.bool big,.int .i64 mn,.int .i64 mx,.int .i64 stop,.int .i64 count,.int .i64 elem,sn,sp]:List Value).toArray 65 (0,0))):α:=x
abbrev QdF(x:α:=by exact (.cells ([.int .i64 dk,.int .i64 dn,.slice Abv dbs.length cbv,.slice Anv dns.length cnv,.slice Apv p.len cpv]:List Value).toArray 30 (0,0))):α:=x
abbrev Q82(x:α:=by exact (HFM.out.on hw.k.below)):α:=x
abbrev VB(x:α:=by go_ret;exact⟨by rw[HT.out];rfl,HB2.out⟩):α:=x
abbrev ZA(x:α:=by exact (fun _=>.inl Q1)):α:=x
abbrev Qkz(x:α:=by exact ⟨HF.out.snoc hy.2.1,HL.out.app hy.2.2,(hfar q y.r hq hy.1).2,by show i+1<=_;omega,by show (A.snoc _ _).len<=i+1;rw[VF.len_snoc];omega,by show (N++[s.data.toList]).length<=i+1;rw[List.length_append];show N.length+1<=i+1;omega,by rw[HR2.out,Qit hz hy.1]⟩):α:=x
abbrev Qnd(x:α:=by exact (QV rfl rfl Q1 rfl rfl (by first|exact fun w hw=>hw.range_blk 0 rfl|exact fun w hw=>hw.range_old Qx Qn) (by rfl))):α:=x
abbrev Qgj(x:α:=by exact (fun _ _ h=>by rw[HC.out] at h;exact h)):α:=x
abbrev Qgp(x:α:=by show n - (i+1)<n - i;omega):α:=x
abbrev Q1R(x:α:=by exact fun j u hu=>Up.cell (Q5G j u hu) ⟨_,Qae _ _ _⟩):α:=x
abbrev Qgh(x:α:=by exact (0,.agg #[.slice (some ⟨b,o,none⟩) n c])):α:=x
abbrev QhH(x:α:=by exact (1,.agg [.string ⟨name.toArray⟩,.int .i64 kind,sb,.int .i64 size,.bool big,.int .i64 mn,.int .i64 mx,.int .i64 stop,.int .i64 count,.int .i64 elem,sn,sp].toArray)):α:=x
abbrev Qd6(x:α:=by exact (Kc rfl rfl Q1 rfl rfl rfl (by first|exact beq_eq_false_iff_ne.2 Q2|rfl))):α:=x
abbrev Q4B(x:α:=by exact Q3 (show ns.length=nn by have:=hr.len;rw[Z8] at this;exact this)):α:=x
abbrev VT(x:α:=by exact (h _ (by rw[hd];exact ha.put _ hN))):α:=x
abbrev Q8N(x:α:=by exact (4,.pointer (some ⟨b4,0,none⟩))):α:=x
abbrev KX(x:α:=by exact (RsV.blk 1 rfl rfl (by rw[Z5,X4]))):α:=x
abbrev Q5I(x:α:=by exact (QC _ _ _ (f:=131) rfl rfl rfl (fun w hw=>Vp HN.out hq' hj2 Q2 hw))):α:=x
abbrev Q6Z(x:α:=by exact (.cons rfl rfl (.cons rfl rfl (.cons rfl (by rw[List.length_append];rfl) .nil)))):α:=x
abbrev QnB(x:α:=by show parts.length - (i+1)<parts.length - i;omega):α:=x
abbrev Qcx(x:α:=by exact [.blk g (.cells ([.slice Af nn cf,.slice As nn cs,.slice Ad nd cd,.int .i64 (p:Int)]:List Value).toArray 60 (0,0))]):α:=x
abbrev Qh9(x:α:=by exact (XE _ _ _ rfl rfl rfl (fun w hw=>(HNC.out w (H.out.nextW hw 2 3 rfl rfl)).mono (fun e w' h=>Q83 2 3 Q1 hw rfl rfl (fun x hx=>by cases hx) h)))):α:=x
abbrev Q7M(x:α:=by exact (Yl rfl rfl Q1 rfl rfl rfl Qx)):α:=x
abbrev QcX(x:α:=by exact (Kc rfl rfl Q1 rfl rfl rfl (by first|exact beq_iff_eq.2 Q2|exact beq_eq_false_iff_ne.2 Q2|rfl))):α:=x
abbrev QjV(x:α:=by exact (Qe.sel [2] Q1 rfl)):α:=x
abbrev Qsw(x:α:=by exact [.string ⟨name.toArray⟩,.int .i64 10,.slice Ab bs.length cb,.int .i64 size,.bool big,.int .i64 mn,.int .i64 mx,.int .i64 stop,.int .i64 count,.int .i64 elem,.slice An names.length cn,.slice Ap parts.length cp]):α:=x
abbrev Y2(x:α:=by exact (fun w hw=>hw)):α:=x
abbrev Qqw(x:α:=by rw[Bool.and_eq_false_iff,decide_eq_false_iff_not,decide_eq_false_iff_not];omega):α:=x
abbrev Q8T(x:α:=by first|exact .inl rfl|exact .inr rfl):α:=x
abbrev QhI(x:α:=by exact (Yk rfl rfl Q1 rfl rfl (by rw[Tryz.underlying3];rfl) Tryz.underlying5 hcv)):α:=x
abbrev Qo7(x:α:=by exact (Qg (f:=95) rfl rfl Q1 rfl rfl (fun w hw=>Calls.stay (XA _ _ _ w)))):α:=x
abbrev QmL(x:α:=by exact (XZ rfl rfl Q1 rfl rfl rfl (by exact decide_eq_true Q2))):α:=x
abbrev Qrq(x:α:=by exact (.cells [.int .i64 0,.int .i64 0].toArray 32 (0,0))):α:=x
abbrev Qgy(x:α:=by exact (Q9F (fun _:Unit=>.tuple #[]) (fun _=>True) (fun _=>_) rfl rfl rfl rfl (fun w hw=>QgJ (i:=0) rfl Q2 Q2 Q2 hw))):α:=x
abbrev Q8O(x:α:=by exact Qb mc4 rfl (.tmp rfl) (fun w hw=>⟨(k1,q1),rfl,HY.out,hw⟩)):α:=x
abbrev Ql0(x:α:=by exact ⟨N++[s.data.toList],A.snoc y.r.1 y.r.2.1,cs'++y.cells,z2.1,z2.2,z1.1,z1.2,L++y.L,y.r.2.2,i+1⟩):α:=x
abbrev QkD(x:α:=by exact (1,.agg #[.int .i64 d.k,.int .i64 d.n,.slice Abv nb cbv,.slice Anv nnv cnv,.slice Apv l.len cpv])):α:=x
abbrev Q8p(x:α:=by exact (QC _ _ _ (f:=137) rfl rfl rfl (fun w hw=>Q2Z (x:=r1) hr1l Q2 hw))):α:=x
abbrev Q1S(x:α:=by exact Up.cell (Qjj _ _ _ _) ⟨_,YR _ _⟩):α:=x
abbrev Qvl(x:α:=by exact (Qg (f:=149) rfl rfl Q1 rfl rfl (fun w hw=>Qao (by simpa using h3) hn (HL.out.on hw.k.below).p HS.out.parts))):α:=x
abbrev Q6i(x:α:=by exact (HF.out.on hw.k.below)):α:=x
abbrev Y0(x:α:=by exact (show 0<nn by omega)):α:=x
abbrev QvO(x:α:=by exact #[.int .i64 0,.int .i64 0,.slice none 0 0,.slice none 0 0,.slice none 0 0]):α:=x
abbrev Q0G(x:α:=by exact (List.mem_of_getElem? hx)):α:=x
abbrev QkF(x:α:=by exact Qb mc4 rfl (.tmp rfl) (fun w hw=>QG rfl hw)):α:=x
abbrev Q4w(x:α:=by exact Q3 (show ns.all Qk=false by simpa using hall)):α:=x
abbrev Q3p(x:α:=by exact (Vz 2 rfl rfl rfl rfl rfl rfl Q2)):α:=x
abbrev QnZ(x:α:=by exact (some ⟨bf,0,none⟩)):α:=x
abbrev Q4t(x:α:=by exact (RsV.blk 2 rfl rfl rfl)):α:=x
abbrev QuY(x:α:=by exact (Qg (f:=140) rfl rfl Q1 rfl rfl (fun w hw=>(Q04 (HE.out.on hw.k.below) hm).mono (fun _ _ h=>h)))):α:=x
abbrev Qhf(x:α:=by exact (1,.agg (ruC r (.slice Ab r.bs.length cb) (.slice An r.names.length cn) (.slice Ap r.parts.length cp)).toArray)):α:=x
abbrev QqP(x:α:=by exact (Jv (xs:=[(0,.const (.int .u8 2)),(1,.const (.int .u8 5)),(2,.const (.int .u8 0)),(3,.const (.int .u8 6)),(4,.const (.int .u8 0))]) (vs:=[(0,.int .u8 2),(1,.int .u8 5),(2,.int .u8 0),(3,.int .u8 6),(4,.int .u8 0)]) (cells:=bv exD) rfl rfl rfl (QaW Q1 (by rintro⟨l⟩ h;match l,h with|[z0,z1,z2,z3,z4],_=>rfl)))):α:=x
abbrev Yz(x:α:=by exact (Q7P rfl rfl rfl rfl)):α:=x
abbrev QhS(x:α:=by exact (Qg rfl rfl Q1 rfl rfl (fun w hw=>(Q1D _ _ w).mono (fun e w2 h=>⟨h.1,h.2▸YR _ _⟩)))):α:=x
abbrev Qsy(x:α:=by exact (QC _ _ _ rfl rfl rfl (fun w hw=>(Q1k ((hy.2.1.below (hw.k.belowB H.out.hB H.out.lt)).more (by have:=H.out.hB;have:=H.out.lt;have:=hw.k.size;omega)) (by have:=congrArg (fun x=>x.1.length) (J3 hy.1).1;simp only[List.length_take,List.length_drop] at this;omega)).mono (fun e w' h=>Qk9 hw h)))):α:=x
abbrev Qhl(x:α:=by exact (Xd (j:=0) rfl rfl Q1 rfl rfl rfl (by first|exact Nat.zero_lt_succ _|exact Nat.zero_lt_one))):α:=x
abbrev QdB(x:α:=by exact (QS 2 rfl rfl rfl rfl rfl rfl rfl Qn)):α:=x
abbrev Va(x:α:=by simp only;omega):α:=x
abbrev Q4S(x:α:=by exact (H.out.next hw.k hp (hw.own 3 _ rfl))):α:=x
abbrev Q94(x:α:=by exact Q3 (show Below w.heap.size w w2 from XF (Qae _ _ _) hb2)):α:=x
abbrev Q4z(x:α:=by exact (fun _=>.inr (Qe.sel [5,6,2] Q1 rfl))):α:=x
abbrev YH(x:α:=by exact (fun _=>.inr Zi)):α:=x
abbrev Kk(x:α:=by exact (hw.own 0 _ rfl)):α:=x
abbrev Q1y(x:α:=by exact fun y:Up W1=>Up.cell (hc 11 _ rfl) y):α:=x
abbrev Q1r(x:α:=by exact fun y:Up W1=>Up.cell (hc 10 _ rfl) y):α:=x
abbrev Q05(x:α:=by exact (Qe.sel [3,1] Q1 rfl)):α:=x
abbrev Q5V(x:α:=by exact (Xp 3 rfl rfl rfl rfl rfl Q7p Q5c Q2)):α:=x
abbrev Qvj(x:α:=by exact (Xp 2 rfl rfl rfl rfl rfl Q7p Q5c Q2)):α:=x
abbrev Q0H(x:α:=by exact (some ⟨b,o,none⟩)):α:=x
abbrev Qce(x:α:=by exact [.blk g (.cells ([.slice Q8w nn cf,.slice As nn cs,.slice Ad nd cd,.int .i64 (p:Int)]:List Value).toArray 60 (0,0))]):α:=x
abbrev Q8n(x:α:=by exact (Qg (f:=54) rfl rfl Q1 rfl rfl (fun w hw=>(Q2P Q82 HS.out hc Kt).mono Qgj))):α:=x
abbrev J9(x:α:=by exact (0,.pointer Q6b)):α:=x
abbrev Qvd(x:α:=by exact (Qe.sel [3,4] Q1 rfl)):α:=x
abbrev Q8C(x:α:=by exact (.cons rfl rfl mc2)):α:=x
abbrev Q03(x:α:=by exact (.cons rfl rfl Qwm)):α:=x
abbrev Qdp(x:α:=by exact (.cells ([.slice Q8w nn cf,.slice A xs.length c,.int .i64 (n+1:Int)]:List Value).toArray 77 (0,0))):α:=x
abbrev QhX(x:α:=by exact (Qg rfl rfl Q1 rfl rfl (fun w hw=>(ZM Q6i HS.out hc Kt).mono (fun e w' h=>by rw[HZ.out] at h;exact h)))):α:=x
abbrev Q8y(x:α:=by exact (.cells ([.pointer Q6b]:List Value).toArray 56 (0,0))):α:=x
abbrev Q1T(x:α:=by exact IntWalk.i64_in _ Q2):α:=x
abbrev Q98(x:α:=by exact (Qg (f:=92) rfl rfl Q1 rfl rfl (fun w hw=>Q9g Kt hxl))):α:=x
abbrev Qh4(x:α:=by exact (Q10 (l:=1) rfl rfl Q1 rfl rfl rfl (by first|exact Nat.succ_le_succ JR|exact Nat.le_refl 1))):α:=x
abbrev Q8D(x:α:=by exact (.cons rfl rfl Qem)):α:=x
abbrev Qsi(x:α:=by exact (XZ rfl rfl Q1 rfl rfl rfl (by first|exact decide_eq_false Q2|rfl))):α:=x
abbrev Qlk(x:α:=by exact (.cons rfl (by go_num) .nil)):α:=x
abbrev Qbo(x:α:=by exact [Qt4,(1,.pointer (some ⟨h,0,none⟩)),(2,.pointer (some ⟨gf,0,none⟩))]):α:=x
abbrev Quy(x:α:=by exact (.cells ([.string ⟨name.toArray⟩,.int .i64 7,.slice Ab bs.length cb,.int .i64 size,.bool big,.int .i64 mn,.int .i64 mx,.int .i64 stop,.int .i64 count,.int .i64 elem,.slice (some ⟨bm,om,none⟩) names.length cn,.slice (some ⟨bp,op,none⟩) parts.length cp]:List Value).toArray 65 (0,0))):α:=x
abbrev Q1G(x:α:=by exact fun y:Up W1=>Up.cell (hc 9 _ rfl) y):α:=x
abbrev Q1s(x:α:=by exact fun y:Up W1=>Up.cell (hc 8 _ rfl) y):α:=x
abbrev Q1O(x:α:=by exact fun y:Up W1=>Up.cell (hc 7 _ rfl) y):α:=x
abbrev Q1M(x:α:=by exact fun y:Up W1=>Up.cell (hc 6 _ rfl) y):α:=x
abbrev Q1N(x:α:=by exact fun y:Up W1=>Up.cell (hc 5 _ rfl) y):α:=x
abbrev Q1m(x:α:=by exact fun y:Up W1=>Up.cell (hc 4 _ rfl) y):α:=x
abbrev Q1F(x:α:=by exact fun y:Up W1=>Up.cell (hc 3 _ rfl) y):α:=x
abbrev Q1t(x:α:=by exact fun y:Up W1=>Up.cell (hc 2 _ rfl) y):α:=x
abbrev Q1J(x:α:=by exact fun y:Up W1=>Up.cell (hc 1 _ rfl) y):α:=x
abbrev Q1i(x:α:=by exact fun y:Up W1=>Up.cell (hc 0 _ rfl) y):α:=x
abbrev Q2L(x:α:=by exact (ZJ 2 rfl rfl rfl rfl rfl rfl rfl)):α:=x
abbrev Q5F(x:α:=by exact (fun i j h=>by (repeat' split at h)<;>omega)):α:=x
abbrev Qo3(x:α:=by exact (Qg rfl rfl Q1 rfl rfl (fun w hw=>X2 w))):α:=x
abbrev Qga(x:α:=by exact (dull _ rfl rfl rfl rfl _ JR fun hh=>by rcases hh with hh|hh<;>cases (show false=true from hh))):α:=x
abbrev YI(x:α:=by go_ret;exact⟨rfl,rfl⟩):α:=x
abbrev Qgs(x:α:=by exact (RsV.blk 0 rfl rfl rfl)):α:=x
abbrev QkS(x:α:=by exact (Xd rfl rfl Q1 rfl rfl rfl (show i<names.length by omega))):α:=x
abbrev Qs9(x:α:=by exact (Qg (f:=133) rfl rfl Q1 rfl rfl (fun w hw=>JB _ w hsz))):α:=x
abbrev QhL(x:α:=by exact (X9 (xs:=[]) (vs:=[]) (v:=.agg QvO) rfl rfl Q1 rfl rfl Q4a)):α:=x
abbrev Yh(x:α:=by exact .inl rfl):α:=x
abbrev Qcq(x:α:=by exact (.cells ([.slice V7 n c]:List Value).toArray 24 (0,0))):α:=x
abbrev QoK(x:α:=by simp only[Rows.uptoBulk];simp only[lits,List.length_map,List.length_take] at h1;simp only[lits];omega):α:=x
abbrev Qqu(x:α:=by exact (QC _ _ _ (f:=131) rfl rfl rfl (fun w hw=>Vp hN hq hk hn hw))):α:=x
abbrev Q1z(x:α:=by exact (Qe.sel [3,4,0] Q1 rfl)):α:=x
abbrev QqO(x:α:=by exact (c.toNat:Int)):α:=x
abbrev Q7f(x:α:=by exact (fun h=>(hy.2 (by rw[hy1];exact h)).trans hy1)):α:=x
abbrev Qkf(x:α:=by rw[if_neg Q2,if_neg Q2,if_neg Q2,if_neg Q2,if_neg Q2,if_neg Q2,if_pos h]):α:=x
abbrev QsA(x:α:=by exact [.blk b3 (.cells ([.int .i64 dk',.int .i64 dn',.slice Ab' nb' cb',.slice An' nn' cn',.slice Ap' L cp']:List Value).toArray 30 (0,0)),.blk b2 (.cells ([.int .i64 dk,.int .i64 dn,.slice Ab nb cb,.slice An nn cn,.slice Ap L cp]:List Value).toArray 30 (0,0))]):α:=x
abbrev QnK(x:α:=by exact (Xp 3 rfl rfl rfl rfl rfl (fun w hw=>(HRB.out.below (H.out.below hw.k)).more (by have:=hw.k.size;omega)) (Vj _) Q2)):α:=x
abbrev Qc0(x:α:=by exact (KJ rfl rfl Q1 rfl rfl rfl rfl)):α:=x
abbrev Qqx(x:α:=by exact (Qg rfl rfl Q1 rfl rfl (fun w hw=>(ZM Q6i HS.out hc Kt).mono (fun e w' h=>by rw[HAB.out] at h;exact h)))):α:=x
abbrev Q0j(x:α:=by exact (Z2 (t:=32) rfl rfl)):α:=x
abbrev Q4H(x:α:=by exact (List.mem_cons_of_mem _ hx)):α:=x
abbrev Qi5(x:α:=by exact (.cells (Qwy:List Value).toArray 65 (0,0))):α:=x
abbrev QjM(x:α:=by exact (QV rfl rfl Q1 rfl rfl (by exact fun w hw=>hw.range_blk 0 rfl) (by rfl))):α:=x
abbrev QjW(x:α:=by exact (1,.int .i64 (k:Int))):α:=x
abbrev Qvq(x:α:=by exact (.cells ([.int .i64 4,.int .i64 0,.slice none 0 0,.slice Nr N.length cN,.slice Ar A.len c]:List Value).toArray 30 (0,0))):α:=x
abbrev Qnn(x:α:=by exact (Yl rfl rfl Q1 rfl rfl rfl (by first|assumption|rfl))):α:=x
abbrev Qoi(x:α:=by exact (Qe.sel [1,2,3] Q1 rfl)):α:=x
abbrev Qgb(x:α:=by exact (Qb3 Tryz.underlying9 rfl rfl Q1 rfl rfl)):α:=x
abbrev QbE(x:α:=by exact (Xd rfl rfl Q1 rfl rfl rfl Qx)):α:=x
abbrev VX(x:α:=by rw[hsz];omega):α:=x
abbrev Qr0(x:α:=by exact (HL.out.new fun x hx=>hw.onAll x (by simp [hx]))):α:=x
abbrev QfY(x:α:=by exact (.cons rfl rfl mc1)):α:=x
abbrev Qrz(x:α:=by exact (QV (cs:=ruC { y.x with count:=a } (.slice y.Ab y.x.bs.length y.cb) (.slice y.An y.x.names.length y.cn) (.slice y.Ap y.x.parts.length y.cp)) rfl rfl Q1 rfl rfl (fun w hw j v hv=>hw.cell_row 2 rfl (hwin2 j v hv)) rfl)):α:=x
abbrev QqY(x:α:=by exact (Qg (f:=168) rfl rfl Q1 rfl rfl (fun w hw=>YY hsm HV.out))):α:=x
abbrev Qro(x:α:=by exact (Jw (f:=56) rfl rfl Q1 rfl rfl rfl (fun w hw=>(QbP (Qtx 1 2 4 hol rfl rfl rfl hw) Q82 (HLK.out.on hw.k.below) HV.out.toUsd HRK.out (fun j=>⟨HINV.out.l.nn j,HINV.out.l.top j⟩)).mono (fun _ _ h=>h)))):α:=x
abbrev Q1o(x:α:=by exact fun y:Up W1=>Up.cell hc14 y):α:=x
abbrev Q1I(x:α:=by exact fun y:Up W1=>Up.cell hc13 y):α:=x
abbrev Q92(x:α:=by exact (ZJ 5 rfl rfl rfl rfl rfl rfl rfl)):α:=x
abbrev Q8W(x:α:=by exact (Q2c rfl rfl Q1 rfl rfl rfl)):α:=x
abbrev Qhg(x:α:=by exact (QP rfl rfl Q1 rfl rfl (by exact fun w hw=>hw.cell_blkL 0 rfl rfl))):α:=x
abbrev QuE(x:α:=by exact (Kc rfl rfl Q1 rfl rfl rfl (by first|exact beq_iff_eq.2 Q2|rfl))):α:=x
abbrev Qsd(x:α:=by exact (.cells ([.slice Q8w nn cf,.slice As nn cs,.slice Ad nd cd,.int .i64 (y.q:Int)]:List Value).toArray 60 (0,0))):α:=x
abbrev QrO(x:α:=by exact fun(w:World) (hw:Z6 w ⟨some ⟨bf,of,none⟩,nn,cf⟩ B g F A c xs (n+1))=>Q69 hw (sb:=.slice Ab2 r2.bs.length cb2) (sn:=.slice An2 r2.names.length cn2) (sp:=.slice Ap2 r2.parts.length cp2) hNO hcnt Q2):α:=x
abbrev Qn6(x:α:=by rw[if_neg Q2,if_neg Q2,if_neg Q2,if_neg Q2,if_neg Q2,if_pos h]):α:=x
abbrev QrK(x:α:=by exact (.cells ([.slice Q8w nn cf,.slice As nn cs,.slice Ad nd cd,.int .i64 (q:Int)]:List Value).toArray 60 (0,0))):α:=x
abbrev Q0N(x:α:=by exact ⟨w.heap.size,0,none⟩):α:=x
abbrev Q8t(x:α:=by exact (Q46 rfl rfl Q1 rfl rfl rfl)):α:=x
abbrev QgG(x:α:=by exact (QF rfl rfl Q1 rfl rfl rfl hxn)):α:=x
abbrev QfZ(x:α:=by exact List.take_of_length_le Q2):α:=x
abbrev Q8P(x:α:=by exact (fun _=>.inr (Qe.sel [2,3] Q1 rfl))):α:=x
abbrev Qg6(x:α:=by exact (Qg (f:=133) rfl rfl Q1 rfl rfl (fun w hw=>JB _ w hnm))):α:=x
abbrev Q52(x:α:=by exact Q3 (QjQ HN6.out HALL.out)):α:=x
abbrev Q3m(x:α:=by exact (some ⟨b1,o1,none⟩)):α:=x
abbrev QrH(x:α:=by exact (RsV.blk 4 rfl rfl rfl)):α:=x
abbrev Qs5(x:α:=by exact (.cons rfl (by go_num) Qem)):α:=x
abbrev Qi4(x:α:=by exact (.cells (Qwr:List Value).toArray 65 (0,0))):α:=x
abbrev Qkr(x:α:=by have e2:sv (nm++[(n1:List UInt8)])=sv nm++[.string ⟨(n1:List UInt8).toArray⟩]:=Q9M _ _;rw[e1,e2];exact hw):α:=x
abbrev Qlo(x:α:=by have e2:sv (nm++[([]:List UInt8)])=sv nm++[.string ⟨([]:List UInt8).toArray⟩]:=Q9M _ _;rw[e1,e2];exact hw):α:=x
abbrev Qsa(x:α:=by exact fun(w:World) (hw:Z6 w ⟨some ⟨bf,of,none⟩,nn,cf⟩ B g F A c xs (n+1))=>Q69 hw (sb:=.slice Ab bs.length cb) (sn:=.slice An names.length cn) (sp:=.slice Ap parts.length cp) hNO hcnt Q2):α:=x
abbrev J2(x:α:=by exact (ha.eval hx)):α:=x
abbrev Q8z(x:α:=by exact (fun x hx=>by rw[<- HE.out,hx];rfl)):α:=x
abbrev QkH(x:α:=by simp [Builtin.append_,run_underlying hT.und,sizeOf,typeInfo,hi,Builtin.lenOf,Builtin.firstCells,hnc,storeCells]):α:=x
abbrev Qob(x:α:=by exact (Qg (f:=28) rfl rfl Q1 rfl rfl (fun w hw=>(ZM Q82 HS.out hc Kt).mono Qgj))):α:=x
abbrev Yq(x:α:=by exact (fun _ hw=>hw.tl)):α:=x
abbrev Q4A(x:α:=by rw[<- QH hg];simp only;omega):α:=x
abbrev Qct(x:α:=by rw[z7 Q1 Q1,z8 Q1 Q1,z10 Q1 Q1];rfl):α:=x
abbrev Qv6(x:α:=by exact (Qg (f:=148) rfl rfl Q1 rfl rfl (fun w hw=>Qa2 w))):α:=x
abbrev QmO(x:α:=by simp only[VF.len_snoc,List.length_append,QlK];exact h):α:=x
abbrev Q7Z(x:α:=by exact (Qgt rfl rfl Q1 rfl rfl)):α:=x
abbrev Q4F(x:α:=by exact (hb1.cell Qn).trans Qn):α:=x
abbrev Qh5(x:α:=by exact #[.pointer (some ⟨b4,0,none⟩),.pointer (some ⟨b5,0,none⟩)]):α:=x
abbrev Ql5(x:α:=by exact (Xp (news:=[.string ⟨(n1:List UInt8).toArray⟩]) 4 rfl rfl rfl rfl rfl Q7p Q5c Q2)):α:=x
abbrev Qm4(x:α:=by exact (Xp (news:=[.string ⟨([]:List UInt8).toArray⟩]) 4 rfl rfl rfl rfl rfl Q7p Q5c Q2)):α:=x
abbrev Qhd(x:α:=by exact (Qg (f:=57) rfl rfl Q1 rfl rfl (fun w hw=>Qbc w))):α:=x
abbrev QrJ(x:α:=by exact (fun w hw=>(Q5n (HO.out.on hw.k.below) hcn).mono fun e w' hq=>⟨by rw[hq.1,H1.out],hq.2⟩)):α:=x
abbrev Qnz(x:α:=by exact (.cells ([.slice Af nn cf,.slice A xs.length c,.int .i64 (n:Int)]:List Value).toArray 77 (0,0))):α:=x
abbrev Qr1(x:α:=by exact ⟨A.snoc y.r.1 y.r.2.1,cs'++y.cells,z.1,z.2,L++y.L,y.r.2.2,n⟩):α:=x
abbrev Qg5(x:α:=by exact (Qg rfl rfl Q1 rfl rfl (fun w hw=>Qab _ _ _ w))):α:=x
abbrev QuO(x:α:=by exact (Z2 rfl rfl)):α:=x
abbrev Qmf(x:α:=by exact ⟨⟨by decide,by decide,by decide,by decide⟩,by decide,by decide,fun x hx=>by cases hx⟩):α:=x
abbrev Qln(x:α:=by exact (Zl (size:=1) (cs:=[.string ⟨(n1:List UInt8).toArray⟩]) rfl rfl rfl rfl rfl Q1)):α:=x
abbrev QkJ(x:α:=by exact (Zl (size:=1) (cs:=[.string ⟨([]:List UInt8).toArray⟩]) rfl rfl rfl rfl rfl Q1)):α:=x
abbrev Q8E(x:α:=by exact (KJ rfl rfl Q1 rfl rfl rfl hne)):α:=x
abbrev Jq(x:α:=by exact (ha.want hw)):α:=x
abbrev Vb(x:α:=by exact hb):α:=x
abbrev Qks(x:α:=by exact (RsV.blk 3 rfl rfl rfl)):α:=x
abbrev Qh1(x:α:=by have:=hs.name;show r.name.toArray.size<=_;rw[List.size_toArray];omega):α:=x
abbrev QcS(x:α:=by go_ret;exact⟨by rw[HK.out];rfl,rfl⟩):α:=x
abbrev Qvm(x:α:=by exact (fun y=>Vu y.L y.cs y.A/\Q29 y.L W.heap.size/\y.q<=D.length/\y.A.len+y.n<=D.length+1/\RES=rb (Ym (QA F D f elem) D stop y.A y.n y.q) fun z=>okR (ndL,z.1,z.2))):α:=x
abbrev Qme(x:α:=by rw[if_neg Q2,if_neg Q2,if_neg Q2,if_neg Q2,if_pos h]):α:=x
abbrev Qm3(x:α:=by exact (QP rfl rfl Q1 rfl rfl (fun w hw=>hw.cell_rd 0 (j:=0) (v:=.int .i64 a) rfl rfl))):α:=x
abbrev Q1p(x:α:=by exact (hw.own 1 _ rfl)):α:=x
abbrev Q80(x:α:=by go_ret;exact⟨rfl,XF (Qae _ _ _) hb2⟩):α:=x
abbrev Q2R(x:α:=by exact List.mem_singleton.2 rfl):α:=x
abbrev Q5Z(x:α:=by show N - (j+1)<N - j;omega):α:=x
abbrev Q30(x:α:=by exact (0,.pointer QcE)):α:=x
abbrev QqV(x:α:=by exact Q44 () [0,1,2,3] Q1 trivial (.cons rfl rfl (.cons rfl rfl (.cons rfl rfl (.cons rfl rfl (.cons rfl rfl (.cons rfl rfl (.cons rfl (by rw[hb];rfl) .nil))))))) rfl):α:=x
abbrev QvV(x:α:=by exact (0,.agg [.string ⟨name.toArray⟩,.int .i64 kind,sb,.int .i64 size,.bool big,.int .i64 mn,.int .i64 mx,.int .i64 stop,.int .i64 count,.int .i64 elem,sn,sp].toArray)):α:=x
abbrev QbZ(x:α:=by exact .inr ⟨_,h2,x,hx x h1,rfl,hw.k.thenK hk⟩):α:=x
abbrev Qqq(x:α:=by exact (QC _ _ _ (f:=55) rfl rfl rfl (fun w hw=>Q8F HFM.out HF.out hn40 hn0 hw))):α:=x
abbrev Q8e(x:α:=by exact (Q6y rfl Q1 rfl)):α:=x
abbrev Qdb(x:α:=by obtain⟨b,n,s⟩:=p;simp [execOp,ho,hx,hc,go_sem]):α:=x
abbrev Qkg(x:α:=by have h:=Nat.le_trans (Nat.le_mul_of_pos_right (n+m) hT.bpos) hbytes;simp only[maxLen];omega):α:=x
abbrev YK(x:α:=by exact (V2 h).elim):α:=x
abbrev Q1x(x:α:=by have:=(h.far _ e).1;omega):α:=x
abbrev QnJ(x:α:=by exact ⟨rfl,YR _ _⟩):α:=x
abbrev QhE(x:α:=by exact (1,.pointer QnZ)):α:=x
abbrev QkY(x:α:=by exact (.cells ([.slice A n c]:List Value).toArray 24 (0,0))):α:=x
abbrev Qsx(x:α:=by exact (fun _=>[Qf.blk g (.cells [.slice Q8L ws0.length 2].toArray 27 (0,0)),Qf.row Q8L ws0.length 2 9 1 (sv ws0),Qf.blk br Q8q,Qf.blk bf Q4T])):α:=x
abbrev QbQ(x:α:=by exact (fun w hw=>⟨rfl,hw.k.below⟩)):α:=x
abbrev Q1C(x:α:=by exact Qin _ _ _ _ _):α:=x
abbrev Qk6(x:α:=by exact (QP rfl rfl Q1 rfl rfl (fun w hw=>hw.cell_old hcs (by simp;omega)))):α:=x
abbrev QrA(x:α:=by exact (QP rfl rfl Q1 rfl rfl (by exact fun w hw=>hw.cell_blkL 1 rfl rfl))):α:=x
abbrev Q0b(x:α:=by exact (fun i=>i.elim)):α:=x
abbrev QhU(x:α:=by exact (List.mem_cons_of_mem _ hk)):α:=x
abbrev Qqs(x:α:=by exact (QV (cs:=Xc st) rfl rfl Q1 rfl rfl (fun w hw=>by rw[<- HST.out];exact Qu5 Kk ((Q72 F).trans HLEN.out) Q2) (X4 _))):α:=x
abbrev QsD(x:α:=by exact Qb mc4 rfl YW (fun w hw=>⟨hw.k,.inr ⟨ndN y.1,.nil,y.2,_,[],by rw[<- HE.out,hy];rfl,rfl,hw.own 3 _ rfl,XO.num _,New.nil _ _⟩⟩)):α:=x
abbrev Qhe(x:α:=by exact Ag.cons (Ag.nil ha.sz ha.df) (by exact ha.at_ rfl)):α:=x
abbrev Qlr(x:α:=by simp [results,Tryz.results69,go_sem,r0,r1,z4]):α:=x
abbrev Qdm(x:α:=by exact (List.replicate F.length false)):α:=x
abbrev Qle(x:α:=by rintro v w' ⟨i,rfl,hp,hW'⟩;rw[hd];exact hK _ _ (h i hp _ w' (ha.put _ hN) hW')):α:=x
abbrev QrG(x:α:=by exact (QC _ _ _ (f:=121) rfl rfl rfl (fun w hw=>Q8V HG.out hw Kt))):α:=x
abbrev Qg2(x:α:=by exact (Xp 4 rfl rfl rfl rfl rfl Q7p Q5c Q2)):α:=x
abbrev Qgd(x:α:=by exact (Q10 (l:=1) rfl rfl Q1 rfl rfl rfl hlt)):α:=x
abbrev Q1B(x:α:=by exact (fun _=>.inr Q0F)):α:=x
abbrev Qg0(x:α:=by rw[List.length_take,List.length_drop];omega):α:=x
abbrev Q81(x:α:=by exact (beq_eq_false_iff_ne.2 Q2)):α:=x
abbrev Qvx(x:α:=by exact Q3 (show xs.length=n by have:=h.len;rw[K2] at this;exact this)):α:=x
abbrev Qre(x:α:=by exact [(0,.const (.string ⟨#[110]⟩)),(1,.const (.int .i64 2)),(3,.const (.int .i64 1)),(4,.const (.bool true)),(6,.const (.int .i64 255))]):α:=x
abbrev Q4N(x:α:=by exact (fun b' hb'=>.inl hb')):α:=x
abbrev QhJ(x:α:=by exact (QC _ _ _ rfl rfl rfl (fun w hw=>QvY hw))):α:=x
abbrev Qrv(x:α:=by exact (XZ rfl rfl Q1 rfl rfl rfl (by exact decide_eq_false Q2))):α:=x
abbrev QsG(x:α:=by exact (fun _=>.inr Qns)):α:=x
abbrev Qs2(x:α:=by exact beq_eq_false_iff_ne.2 Q2):α:=x
abbrev Q3C(x:α:=by exact (1,.int .i64 k)):α:=x
abbrev Qs0(x:α:=by exact (QF rfl rfl Q1 rfl rfl rfl Q2)):α:=x
abbrev QgB(x:α:=by exact ⟨h.1,by rw[<- h.2];exact Below.refl _ _⟩):α:=x
abbrev Qnt(x:α:=by exact Q3 (show Below w.heap.size w W1 by rw[<- hW1];exact YR _ _)):α:=x
abbrev Qi1(x:α:=by exact [Qt4,(1,.slice A m c),(2,.int .i64 (n:Int))]):α:=x
abbrev Qr2(x:α:=by show l.length - (i+1)<l.length - i;omega):α:=x
abbrev Q1Q(x:α:=by exact (.inl hkind)):α:=x
abbrev Qrl(x:α:=by exact [(0,.agg (y.cells).toArray)]):α:=x
abbrev Qr9(x:α:=by exact (Q1v rfl rfl Q1 rfl rfl rfl (by first|assumption|decide|exact bne_iff_ne.2 Q2|exact bne_eq_false_iff_eq.2 Q2|rfl))):α:=x
abbrev QqG(x:α:=by rw[QA];rw[if_neg Q2,if_neg Q2,if_neg Q2,if_neg Q2,if_neg Q2,if_neg Q2,if_neg Q2,if_pos h,hc];simp only;rw[hi]):α:=x
abbrev QbI(x:α:=by exact (Qva rfl rfl Q1 rfl rfl rfl)):α:=x
abbrev QlY(x:α:=by exact (Q0E rfl rfl Q1 rfl rfl rfl (by rfl))):α:=x
abbrev QrF(x:α:=by exact (.cells [.slice Q0H i c].toArray 24 (0,0))):α:=x
abbrev Quw(x:α:=by exact cell_of_shapedOpen_int (zero:=#[.int .i64 0]) (t:=3) hsh (of_decide_eq_true Q5) Q5 rfl Q5 Q5 Tryz.underlying3):α:=x
abbrev Qso(x:α:=by exact (XE _ _ _ rfl rfl rfl (fun w hw=>Q5m (H.out.next hw.k hpi Q1p) HC.out hw (fun w' hw'=>⟨p+i,HE.out,rfl,hw'.k⟩)))):α:=x
abbrev QqH(x:α:=by exact hex hc (by rcases Int.lt_or_eq_of_le (show lk a r.count<=a.getD i 0 by omega) with h|h;exact .inl h;exact .inr ⟨h,hcb⟩)):α:=x
abbrev QrB(x:α:=by exact [(5,.pointer (some ⟨b3,0,none⟩)),(7,.slice A' (Jd st i).length c'),(21,.agg (Xc st).toArray),(22,.int .i64 (i:Int))]):α:=x
abbrev QrT(x:α:=by exact [(0,.agg #[a0,.int .i64 5,.slice Ab nb cb,.int .i64 size,.bool big,.int .i64 mn,.int .i64 mx,.int .i64 stop,a8,a9,a10,a11])]):α:=x
abbrev Q06(x:α:=by exact (fun _ hw=>hw)):α:=x
abbrev Q3g(x:α:=by exact (.error (p+i))):α:=x
abbrev QuU(x:α:=by exact ⟨name.toArray⟩):α:=x
abbrev Qgi(x:α:=by exact ⟨_,(Array.toArray_toList).symm,by simp⟩):α:=x
abbrev QrI(x:α:=by exact [.blk g (.cells ([.slice Af nn cf,.slice As nn cs,.slice Ad nd cd,.int .i64 ((p+i:Nat):Int)]:List Value).toArray 60 (0,0))]):α:=x
abbrev Kl(x:α:=by exact hB):α:=x
abbrev Q8m(x:α:=by exact (H.out.below hw.k)):α:=x
abbrev Qgq(x:α:=by rw[<- HC.out];simp [XM,hk1,hk7,hk8,h1,h2,h3,h4]):α:=x
abbrev Qsc(x:α:=by exact [(0,.const (.string ⟨#[108,105,115,116]⟩)),(1,.const (.int .i64 6)),(8,.const (.int .i64 1)),(9,.const (.int .i64 2))]):α:=x
abbrev QsO(x:α:=by exact (QV rfl rfl Q1 rfl rfl (by first|exact fun w hw=>hw.range_blk 0 rfl|exact fun w hw=>hw.range_blk 1 rfl) (by rfl))):α:=x
abbrev QuZ(x:α:=by exact Lib.tabIs_of_head (g:=3) (zs:=Lib.pow10Tab) (n:=20) Q5 Q5 Tryz.underlying231 Tryz.underlying143 Q5 Q5 t2):α:=x
abbrev YQ(x:α:=by exact (X4 _)):α:=x
abbrev QhD(x:α:=by exact (6,.func (.func 122) #[] #[.pointer Q6b])):α:=x
abbrev QgD(x:α:=by go_ret;exact⟨by rw[HK.out];rfl,Below.refl _ _⟩):α:=x
abbrev QnN(x:α:=by exact (Q0E rfl rfl Q1 rfl rfl rfl (by first|assumption|rfl))):α:=x
abbrev Qrw(x:α:=by have:=hw.k.size;omega):α:=x
abbrev Qh6(x:α:=by exact decide_eq_false Q2):α:=x
abbrev Qhq(x:α:=by exact (Q1v rfl rfl Q1 rfl rfl rfl Qx)):α:=x
abbrev Qbx(x:α:=by rw[HNP.out];omega):α:=x
abbrev Qs3(x:α:=by exact (HV.out.on hw.k.below)):α:=x
abbrev QjX(x:α:=by exact (Qmw rfl rfl Q1 rfl rfl)):α:=x
abbrev QgA(x:α:=by exact (QeP rfl rfl Q1 rfl rfl)):α:=x
abbrev QmB(x:α:=by exact (Qg rfl rfl Q1 rfl rfl (fun w hw=>QbN _ w))):α:=x
abbrev Qrg(x:α:=by exact (X9 (xs:=[(0,.tmp 4)]) (vs:=[(0,.slice V7 3 3)]) (v:=.agg #[.slice V7 3 3]) rfl rfl Q1 rfl rfl Q4a)):α:=x
abbrev Q4q(x:α:=by exact (fun _=>.inr Qvd)):α:=x
abbrev Qvf(x:α:=by exact fun(c:UInt8) (i:Nat) h1 h2=>(Qqi (F:=F) (D:=D) (f:=f) (p:=p) (k:=k) (c:=c) (i:=i) hkind h1 h2).symm.trans hres):α:=x
abbrev Qrt(x:α:=by exact [(0,.const (.string ⟨#[120]⟩)),(1,.const (.int .i64 2)),(3,.const (.int .i64 2)),(6,.const (.int .i64 65535))]):α:=x
abbrev QgL(x:α:=by rw[<- HC.out];simp [XM,hk1,hk7,hk8,h1,h2,h3]):α:=x
abbrev Qqm(x:α:=by exact (Kc rfl rfl Q1 rfl rfl rfl (by first|assumption|decide|exact beq_iff_eq.2 Q2|exact beq_eq_false_iff_ne.2 Q2|rfl))):α:=x
abbrev QhM(x:α:=by exact (hr.parts (.inl h7) k hk)):α:=x
abbrev Q5C(x:α:=by simp [hx]):α:=x
abbrev Qnx(x:α:=by exact (List.mem_of_getElem? hy)):α:=x
abbrev QqT(x:α:=by simp only[ho];exact .inr ⟨hw,Empty,fun i=>i.elim,fun i=>i.elim,fun w h=>absurd ⟨w,h⟩ hne,fun i=>i.elim,fun i=>i.elim⟩):α:=x
abbrev Qsv(x:α:=by exact J4 (XE _ _ _ rfl rfl rfl (fun w hw=>Q0O hw (fun w' hw'=>⟨p,HE.out,rfl,hw'.k⟩))) rfl Q1 Q0b):α:=x
abbrev QhC(x:α:=by exact (ZJ 3 rfl rfl rfl rfl rfl rfl rfl)):α:=x
abbrev QoI(x:α:=by exact (ZJ 1 rfl rfl rfl rfl rfl rfl rfl)):α:=x
abbrev Q0r(x:α:=by exact (.inr hkind)):α:=x
abbrev Qr4(x:α:=by obtain⟨rfl,_,rfl⟩:=hv;simp [Builtin.append_,run_underlying hT.und,sizeOf,typeInfo,hi,Builtin.lenOf,Builtin.firstCells]):α:=x
abbrev QsK(x:α:=by exact J4 (XE _ _ _ rfl rfl rfl (fun w hw=>Q0O hw (fun w' hw'=>⟨rfl,hw'.k.below⟩))) rfl Q1 Q0b):α:=x
abbrev Qvh(x:α:=by exact (QC _ _ _ rfl rfl rfl (fun w hw=>Q3y hw Q6i HS.out hc Kt (HD.out.up hw.k.below) hmc hc2 HP.out))):α:=x
abbrev Qhz(x:α:=by exact ⟨hct.1,by rw[<- hFn];exact hct.2⟩):α:=x
abbrev Qqo(x:α:=by exact (XE _ _ _ rfl rfl rfl (fun w hw=>(Q2d Q4S HNO.out).mono (fun e w' h=>Qa6 3 rfl hw Q8z h)))):α:=x
abbrev Q86(x:α:=by exact (HV.out.on (Qae _ _ _))):α:=x
abbrev Q4v(x:α:=by exact (2,.pointer QnZ)):α:=x
abbrev Qve(x:α:=by exact (0,.slice A n c)):α:=x
abbrev QqW(x:α:=by exact (.cons rfl rfl (.cons rfl rfl Q8D))):α:=x
abbrev QgK(x:α:=by rw[<- HC.out];simp [XM,hk1,hk7,hk8,h1,h2]):α:=x
abbrev QsH(x:α:=by exact (Qg rfl rfl Q1 rfl rfl (fun w hw=>(Qdx _ _ w).mono (fun e w2 h=>⟨h.1,h.2▸YR _ _⟩)))):α:=x
abbrev QgN(x:α:=by exact (fun _=>True)):α:=x
abbrev Qbn(x:α:=by exact (Qe.sel [3] Q1 rfl)):α:=x
abbrev Qw1(x:α:=by rw[if_neg Q2,if_neg Q2,if_neg Q2,if_neg Q2,if_neg Q2,if_neg Q2,if_neg Q2,if_neg Q2]):α:=x
abbrev Qsj(x:α:=by obtain⟨j,h1,h2,h3,h4⟩:=hq;exact⟨m j,h2,j,h1,rfl,h3,h4⟩):α:=x
abbrev Qkp(x:α:=by exact ⟨by omega,by have:=hv.len;omega⟩):α:=x
abbrev Qnf(x:α:=by exact List.eq_nil_of_length_eq_zero Q2):α:=x
abbrev QsN(x:α:=by exact (QV (cs:=y.cells) rfl rfl Q1 rfl rfl (fun w hw j v hv=>hw.cell_row 2 rfl (hwin2 j v hv)) rfl)):α:=x
abbrev QrZ(x:α:=by exact (Qg (f:=140) rfl rfl Q1 rfl rfl (fun w hw=>Q04 (HF.out w hw.tail.tail).1 Q2))):α:=x
abbrev QbC(x:α:=by simp only[UInt8.toNat_ofNat'];omega):α:=x
abbrev QuT(x:α:=by simp only[List.map_cons,List.sum_cons,List.length_cons];omega):α:=x
abbrev QuC(x:α:=by exact fun(c:UInt8) h1 h2=>(Qkd (F:=F) (D:=D) (f:=f) (p:=p) (k:=k) (c:=c) hkind h1 h2).symm.trans hres):α:=x
abbrev Qsm(x:α:=by exact Q3 (show RES=some Q3g by rw[HRES.out];exact Q34 HC.out (fun h=>hs h.2) (.inr (.inr hm)))):α:=x
abbrev QqR(x:α:=by exact Q3 (Qly (VF.all_drop HALL.out i) hdr (ZV.drop p i HFP.out) (Ki.drop p i HGP.out) hl')):α:=x
abbrev Q6w(x:α:=by exact absurd h Q1):α:=x
abbrev Q5N(x:α:=by exact (hr.elem (.inl h6))):α:=x
abbrev Qdo(x:α:=by simp;omega):α:=x
abbrev Qha(x:α:=by show 256 - (i+1)<256 - i;omega):α:=x
abbrev Qhy(x:α:=by exact (List.mem_cons_of_mem _ hy)):α:=x
abbrev Qo6(x:α:=by exact (.slice An names.length cn)):α:=x
abbrev Qrk(x:α:=by exact [(1,.slice (some ⟨qd,od,none⟩) D.length c2),(7,.slice zA fl.length zc),(11,.int .i64 (j:Int))]):α:=x
abbrev QvP(x:α:=by rw[if_neg Q2,if_neg Q2,if_neg Q2,if_neg Q2,if_neg Q2,if_neg Q2,if_neg Q2,if_pos h]):α:=x
abbrev Qmx(x:α:=by injection h with h;subst h;rw[Addr.add_mid];exact hc j u hu):α:=x
abbrev QhQ(x:α:=by exact (QrC rfl rfl Q1 rfl rfl rfl)):α:=x
abbrev Qhr(x:α:=by exact (.inr ⟨by simpa using hw,rfl⟩)):α:=x
abbrev Qhw(x:α:=by rw[<- HC.out];simp [XM,hk1,hk7,hk8,h1]):α:=x
abbrev Qrj(x:α:=by exact (Xp 1 rfl rfl rfl rfl rfl Q7p Q5c Q2)):α:=x
abbrev Qbz(x:α:=by exact (fun w hC=>hr w hC i v hv)):α:=x
abbrev Qd1(x:α:=by rw[HNP.out];exact hlt):α:=x
abbrev Qsb(x:α:=by rw[if_neg h1,if_neg Q2,if_neg Q2,if_neg h10,if_neg Q2,if_neg Q2,if_neg Q2] at hle;omega):α:=x
abbrev Qmo(x:α:=by go_ret;exact⟨by rw[<- HF.out];simp [QR],HB2.out⟩):α:=x
abbrev QsP(x:α:=by exact (fun h0=>by obtain⟨b,o,h1,h2,h3⟩:=HCH.out h0;exact⟨b,o,h1,h2,h3.below h2 Q8m XU⟩)):α:=x
abbrev Q7U(x:α:=by exact (Nat.succ_pos _)):α:=x
abbrev QrP(x:α:=by exact Zc Yh rfl (fun w hw=>Ye H.out 3 4 (b:=dbs++[sB]) hw rfl rfl HZ.out Q2 Q2)):α:=x
abbrev Qcj(x:α:=by exact (ndL,z.1,z.2)):α:=x
abbrev Q1w(x:α:=by exact (hcl.set hr')):α:=x
abbrev Q5P(x:α:=by exact (hB.symm.trans h0)):α:=x
abbrev Q1H(x:α:=by exact (h a w ha hw)):α:=x
abbrev Q7T(x:α:=by exact (3,.pointer QcE)):α:=x
abbrev QqF(x:α:=by rintro e' u' w8 ⟨rfl,rfl,rfl⟩;exact⟨_,Qpi rfl (Yd ha hw h4) (Yd ha hw h5),hR _ hw⟩):α:=x
abbrev Qvk(x:α:=by exact Q0q HV.out Q2 (fun r hr x hx=>(HS.out.2 r hr).each x hx) _ HK.out 0 _ JR HY1.out):α:=x
abbrev Qux(x:α:=by exact (Qg (f:=89) rfl rfl Q1 rfl rfl (fun w hw=>(Q4M Q82 HS.out hc).mono Qgj))):α:=x
abbrev Qsr(x:α:=by exact [(0,.string ⟨#[110]⟩),(1,.int .i64 2),(3,.int .i64 1),(4,.bool true),(6,.int .i64 255)]):α:=x
abbrev QsF(x:α:=by exact (zi (hj:=hkn))):α:=x
abbrev QqU(x:α:=by exact (Z2 (t:=65) rfl rfl)):α:=x
abbrev QsL(x:α:=by exact ⟨h1,h4,fun x hx=>⟨h5.rd x hx,fun b hb=>Nat.le_trans hw.k.size (h5.far x hx b hb)⟩⟩):α:=x
abbrev Qr7(x:α:=by exact [J9,(1,.pointer (some ⟨k,0,none⟩)),(5,.iface 32 (.agg #[.int .i64 c,.int .i64 x]))]):α:=x
abbrev Qsh(x:α:=by rw[<- HR.out];exact HS.out):α:=x
abbrev Qgw(x:α:=by exact (Qe.sel [4,5,1] Q1 rfl)):α:=x
abbrev Qn3(x:α:=by exact ((Below.refl _ _).alloc XU _)):α:=x
abbrev Qlh(x:α:=by exact ⟨rfl,rfl,rfl,Nat.le_refl _,fun _ _ _=>rfl⟩):α:=x
abbrev Qmg(x:α:=by exact (Vz 1 rfl rfl rfl rfl rfl rfl Q2)):α:=x
abbrev QsM(x:α:=by exact (QC _ _ _ (f:=97) rfl rfl rfl (fun w hw=>Q8h (n:=F.length) HLK.out HOK.out hw))):α:=x
abbrev Qri(x:α:=by exact (Qg rfl rfl Q1 rfl rfl (fun w hw=>Q2G (H.out.next hw.k hpi hw.blkH) HC.out))):α:=x
abbrev Qqv(x:α:=by exact (fun b' hb'=>by simp only[Qf.foot] at hb';rw[if_neg Q2] at hb';cases hb';exact h1)):α:=x
abbrev QsC(x:α:=by exact (5,.slice Q8L n n)):α:=x
abbrev Qs6(x:α:=by unfold J0;rw[if_neg Q2,if_neg Q2,if_neg Q2,if_neg Q2,if_neg Q2,if_neg Q2]):α:=x
abbrev QnF(x:α:=by exact Q3 ((hp.below HB1.out).more HB1.out.size)):α:=x
abbrev Qsn(x:α:=by exact (Qlz rfl rfl rfl rfl Q2)):α:=x
abbrev QhT(x:α:=by exact (Ju (by rw[hb];simp [hN]))):α:=x
abbrev QqS(x:α:=by exact (QV rfl rfl Q1 rfl rfl (fun w hw=>hw.range_old hrg2 (by simpa using hbg)) rfl)):α:=x
abbrev QmR(x:α:=by exact (Zp rfl rfl Q1 rfl rfl rfl hx)):α:=x
abbrev QqQ(x:α:=by exact (QF rfl rfl Q1 rfl rfl rfl hcn)):α:=x
abbrev QjB(x:α:=by exact (Xd rfl rfl Q1 rfl rfl rfl hin)):α:=x
abbrev Q8I(x:α:=by exact (hw.own i _ hO)):α:=x
abbrev QvK(x:α:=by show D.length - (i+1)<D.length - i;omega):α:=x
abbrev Qo5(x:α:=by rw[<- HC.out];simp [XM,hk1,hk7,hk8,h1,h2,h3,h4,h6]):α:=x
abbrev Qs7(x:α:=by rw[if_neg Q2,if_neg Q2,if_neg Q2,if_pos h]):α:=x
abbrev Qsu(x:α:=by exact X7 (i+1,z2.1,z2.2) hlt (by show sz - (i+1)<sz - i;omega) Q8C (fun w hw=>hw.tl)):α:=x
abbrev Qr8(x:α:=by exact Zc Yh rfl (fun w hw=>Ye H.out 2 3 (b:=uy) hw rfl rfl HZ.out Q2 Q2)):α:=x
abbrev QsI(x:α:=by exact [J9,(6,.slice Ab bs.length cb),(7,.int .i64 (bs.length:Int)),(8,.int .i64 (i:Int))]):α:=x
abbrev Qrf(x:α:=by exact [(0,.string ⟨#[108,105,115,116]⟩),(1,.int .i64 6),(8,.int .i64 1),(9,.int .i64 2)]):α:=x
abbrev Qrm(x:α:=by exact ⟨by rw[Qok (fun j y hj=>HF.out j y (by rw[HL.out] at hj;omega))];rfl,HB.out⟩):α:=x
abbrev Qmb(x:α:=by exact ⟨Qvn _ _ _ _,.inl ⟨_,_,HC.out,rfl⟩⟩):α:=x
abbrev Qr5(x:α:=by exact [.blk b2 (.cells cur2.toArray 3 (0,0)),.row Q8L n n 4 1 (JL seen),.blk bf Q4T]):α:=x
abbrev QsJ(x:α:=by exact .inr ⟨hw,ι,V,G,hr1,hG,fun x=>go _ _ (hG x).1 ((hG x).2.resolve_left hjT) (hk x)⟩):α:=x
abbrev QuJ(x:α:=by exact (.cells (QuA:List Value).toArray 65 (0,0))):α:=x
abbrev QuP(x:α:=by exact (Q1v rfl rfl Q1 rfl rfl rfl (by first|exact bne_eq_false_iff_eq.2 Q2|rfl))):α:=x
abbrev QrV(x:α:=by exact (QF rfl rfl Q1 rfl rfl rfl (show 0<=count/\count<(nn:Int) by omega))):α:=x
abbrev QqD(x:α:=by exact ⟨rfl,fun h=>absurd h (Nat.lt_irrefl _)⟩):α:=x
abbrev QrS(x:α:=by exact (Xp (news:=[.string ⟨x.toArray⟩]) 3 rfl rfl rfl rfl rfl Q7p Q5c Q2)):α:=x
abbrev Qvp(x:α:=by exact (some ⟨y.1,0,none⟩)):α:=x
abbrev Q84(x:α:=by exact (hr.elem (.inr h9))):α:=x
abbrev Qqr(x:α:=by exact (fun n hn=>hwz n (List.mem_of_mem_take hn))):α:=x
abbrev Qnu(x:α:=by simpa using hy):α:=x
abbrev Qw9(x:α:=by exact (Qg (f:=114) rfl rfl Q1 rfl rfl (fun w hw=>KS Kt Q2 Q2))):α:=x
abbrev QhN(x:α:=by exact (Ju (by rw[hb,ha];simp))):α:=x
abbrev QvF(x:α:=by exact (Q9I Q0U rfl rfl Q1 rfl rfl)):α:=x
abbrev Q61(x:α:=by exact (hw.own 4 _ rfl)):α:=x
abbrev QhK(x:α:=by exact (HFF.out.symm▸hx▸HPL.out)):α:=x
abbrev QuX(x:α:=by exact (1,.func (.func 112) #[] #[])):α:=x
abbrev Qnv(x:α:=by rw[<- HI.out,QfP hlt (by rw[hv];decide),hv]):α:=x
abbrev QqB(x:α:=by exact Kr (A:=[]) (R:=[]) B A (Z.drop A.length) (by rw[List.length_drop];omega)):α:=x
abbrev QqM(x:α:=by exact (Zl (size:=1) (cs:=[.string ⟨x.toArray⟩]) rfl rfl rfl rfl rfl Q1)):α:=x
abbrev QjL(x:α:=by exact (inferInstance:Sl Tryz.prog 28 30 5 88).h):α:=x
abbrev Qm9(x:α:=by exact (fun w hw=>hw.row _ _)):α:=x
abbrev Qtu(x:α:=by exact Q3 (show RES=some (.ok (ndL,A,q+1)) by rw[HR.out,Qi9 HC.out hs];rfl)):α:=x
abbrev Qmr(x:α:=by exact [(0,.string ⟨#[120]⟩),(1,.int .i64 2),(3,.int .i64 2),(6,.int .i64 65535)]):α:=x
abbrev Qom(x:α:=by exact (QC _ _ _ (f:=168) rfl rfl rfl (fun w hw=>Qby Kt hsm HV.out hw))):α:=x
abbrev Qeb(x:α:=by exact (QA F D f elem)):α:=x
abbrev Qty(x:α:=by exact (QP rfl rfl Q1 rfl rfl (by exact fun w hw=>hw.cell_old Qx Qn))):α:=x
abbrev QfD(x:α:=by exact (1,.slice A2 m c2)):α:=x
abbrev Qnl(x:α:=by obtain⟨z,hz,hg⟩:=QW h;obtain⟨rfl,hn⟩:=J3 hz;have:=hr.size4 h4;exact Q4A):α:=x
abbrev QkO(x:α:=by exact ⟨none,0,rfl,by rw[HX.out];exact World.ownsRow_nil _ _ _ _,Below.refl _ _⟩):α:=x
abbrev QkL(x:α:=by exact Qcr (lits (H:=H) .u8 (zs.take len))):α:=x
abbrev QlH(x:α:=by exact (Xp (news:=[.int .i64 (i:Int)]) 1 rfl rfl rfl rfl rfl Q7p Q5c Q2)):α:=x
abbrev QoJ(x:α:=by exact (Qpy rfl rfl Q1 rfl rfl rfl rfl)):α:=x
abbrev Qew(x:α:=by simp only[List.length_cons,List.length_nil];omega):α:=x
abbrev QlJ(x:α:=by rw[List.length_replicate] at this;exact this.symm):α:=x
abbrev Qta(x:α:=by exact fun h=>(QmI (F:=F) (D:=D) (f:=f) (p:=p) (k:=k) hkind h).symm.trans hres):α:=x
abbrev Qlw(x:α:=by exact ⟨(Jb HPB.out Q2 _ _).drew,.inl ⟨c,ix,HC.out,HF.out,rfl⟩⟩):α:=x
abbrev Qfm(x:α:=by exact Q44 () [0,1] Q1 trivial Qem rfl):α:=x
abbrev Qtb(x:α:=by exact (zi1 (hj:=hlt))):α:=x
abbrev Qkx(x:α:=by exact (ZJ 0 rfl rfl rfl rfl rfl rfl rfl)):α:=x
abbrev Qtv(x:α:=by exact (QP rfl rfl Q1 rfl rfl (by exact fun w hw=>hw.cell_blkL 3 rfl rfl))):α:=x
abbrev Qnp(x:α:=by unfold bl Xg;rw[if_pos (.inr h10)];exact List.mem_singleton.2 rfl):α:=x
abbrev Qeg(x:α:=by exact (.slice Ap parts.length cp)):α:=x
abbrev QdR(x:α:=by rw[HC.out,if_neg (fun h=>hz (by simpa using h))]):α:=x
abbrev Qmz(x:α:=by unfold bl Xg;rw[if_pos (.inl h6)];exact List.mem_singleton.2 rfl):α:=x
abbrev Yg(x:α:=by have:=h.hB;omega):α:=x
abbrev Qnb(x:α:=by exact (ZJ 0 rfl rfl rfl rfl rfl rfl (Jc _ (show 0+n*1<256 by omega)))):α:=x
abbrev Qod(x:α:=by exact (Zl (size:=1) (cs:=[.int .i64 (i:Int)]) rfl rfl rfl rfl rfl Q1)):α:=x
abbrev QlU(x:α:=by exact (fun x hx=>by rw[List.mem_singleton] at hx;subst hx;exact hw.own 0 _ rfl)):α:=x
abbrev QaJ(x:α:=by exact (Qla rfl rfl rfl rfl)):α:=x
abbrev QfC(x:α:=by rw[HLEN.out];exact hk):α:=x
abbrev QjK(x:α:=by exact ⟨j+1,y.2,true||!(Qk r1),ns'++[r1],nm++[n1],yz.1,yz.2,ym.1,ym.2⟩):α:=x
abbrev QlG(x:α:=by exact ⟨j+1,y.2,true||!(Qk r1),ns'++[r1],nm++[[]],yz.1,yz.2,ym.1,ym.2⟩):α:=x
abbrev QeG(x:α:=by exact Q3 (XF (XF HB1.out y.b) hb)):α:=x
abbrev Qfy(x:α:=by exact (1,.pointer (some ⟨b,i*12,none⟩))):α:=x
abbrev QtQ(x:α:=by exact Q3 (show 0<=(0:Int)/\(0:Int)<F.length by have:=HV.out.len;omega)):α:=x
abbrev Quq(x:α:=by exact fun h=>(QmP (F:=F) (D:=D) (f:=f) (p:=p) (k:=k) h).symm.trans hres):α:=x
abbrev Qlv(x:α:=by exact (Q7e (k:=.i64) rfl rfl Q1 rfl rfl rfl (IntWalk.i64_in _ Q2))):α:=x
abbrev Qm6(x:α:=by exact (hw1.put (k:=11) (v:=.slice (ZC Q3m c1 1 1) 0 (c1 - 1)) hi Q1)):α:=x
abbrev QkP(x:α:=by exact ⟨size.toNat,by omega⟩):α:=x
abbrev Qak(x:α:=by exact Kj hown1 hb2 XU):α:=x
abbrev QtS(x:α:=by exact fun h=>(QpO (F:=F) (D:=D) (f:=f) (p:=p) (k:=k) h).symm.trans hres):α:=x
abbrev Qug(x:α:=by exact fun h=>(QoW (F:=F) (D:=D) (f:=f) (p:=p) (k:=k) h).symm.trans hres):α:=x
abbrev Qt8(x:α:=by exact fun h=>(Qqe (F:=F) (D:=D) (f:=f) (p:=p) (k:=k) h).symm.trans hres):α:=x
abbrev Q9H(x:α:=by exact (Z2 (t:=27) rfl rfl)):α:=x
abbrev Qmj(x:α:=by exact (Qj F (Qj F k).count)):α:=x
abbrev Q9z(x:α:=by rw[h] at hr;cases hr):α:=x
abbrev Qb4(x:α:=by exact (Region.noSelect_spec hs)):α:=x
abbrev Qui(x:α:=by exact ((List.range k).foldl (YG F) (iter (Jo F) t (F.map KA)))):α:=x
abbrev Q6S(x:α:=by simp [Qf.w] at this):α:=x
abbrev Quh(x:α:=by exact Q3 (show RES=some (.ok (ndL,A,q)) by rw[HR.out,QfG];rfl)):α:=x
abbrev QmE(x:α:=by exact (QP rfl rfl Q1 rfl rfl (fun w hw=>hw.cell_row 2 rfl hcell))):α:=x
abbrev Qke(x:α:=by exact (Jw (v:=.bool true) (f:=152) rfl rfl Q1 rfl rfl rfl QrJ)):α:=x
abbrev Q5K(x:α:=by exact (fun i=>.inr J7)):α:=x
abbrev Q78(x:α:=by exact (fun _=>.inr Qoi)):α:=x
abbrev Qal(x:α:=by exact (fun _=>.inr QjV)):α:=x
abbrev Qam(x:α:=by simpa using hx):α:=x
abbrev QlB(x:α:=by exact XH hv.toUsd f hel):α:=x
abbrev Qmv(x:α:=by exact [.row A' (Jd st i).length c' 3 1 (iv (Jd st i)),.blk b3 Qrq]):α:=x
abbrev Qte(x:α:=by exact (QpM (F:=F) (D:=D) (f:=f) (p:=p) (k:=k) hkind).symm.trans hres):α:=x
abbrev Qub(x:α:=by exact (Qpg (F:=F) (D:=D) (f:=f) (p:=p) (k:=k) hkind).symm.trans hres):α:=x
abbrev Quo(x:α:=by exact (Qpc (F:=F) (D:=D) (f:=f) (p:=p) (k:=k) hkind).symm.trans hres):α:=x
abbrev QaN(x:α:=by exact (Region.free_spec ho hf)):α:=x
abbrev QlC(x:α:=by go_ret;rw[HE.out];exact KF.intro (Q2z hown3 Q2) (by rw[KU]) hb3):α:=x
abbrev Ql8(x:α:=by exact (show (none:Option (Rl×List (List UInt8)))=some (x,refs) from h)):α:=x
abbrev Qjr(x:α:=by exact (QP rfl rfl Q1 rfl rfl (fun w hw=>HC.out w hw.tail.tail))):α:=x
abbrev Q6a(x:α:=by rw[List.length_cons];omega):α:=x
abbrev Qu7(x:α:=by exact Q3 (show RES=some (.error q) by rw[HR.out,Qjd hc];rfl)):α:=x
abbrev Qmq(x:α:=by have h:=hw.tail;rw[show (ns++[x]).length=ns.length+1 by simp,Q9M];exact h):α:=x
abbrev QoD(x:α:=by exact ⟨-1,rfl,by rw[QsS (by rw[HL.out];omega) HF.out];rfl,rfl⟩):α:=x
abbrev Q6G(x:α:=by exact absurd h Qn):α:=x
abbrev Q9O(x:α:=by exact Nat.mod_eq_of_lt Q2):α:=x
abbrev QtM(x:α:=by exact (HLK.out.on hw.k.below)):α:=x
abbrev Qo0(x:α:=by exact Q3 (show Below w.heap.size w w1 from XF (YR _ _) hb1)):α:=x
abbrev Qt3(x:α:=by exact Q3 (XF HB.out (show Below wr.heap.size wr w2 from hb2))):α:=x
abbrev QmT(x:α:=by exact (KP (v:=.bool true) rfl rfl Q1 rfl rfl rfl hin hcell)):α:=x
abbrev Qf9(x:α:=by exact Q3 ⟨sb',sn',sp',rfl,hd'⟩):α:=x
abbrev QlD(x:α:=by rw[Nat.pow_succ] at h;omega):α:=x
abbrev Qnm(x:α:=by rintro w' ⟨x,rfl⟩;exact Calls.up (X6 _)):α:=x
abbrev QkG(x:α:=by rintro w' ⟨x,rfl⟩;exact Calls.up (QY _)):α:=x
abbrev QnM(x:α:=by show Leaves P fn a.tmps R a.defers .returning w;rw[hd];exact⟨v,h1,h2⟩):α:=x
abbrev QaA(x:α:=by exact ⟨⟨i,h2⟩,h1,h3⟩):α:=x
abbrev Qur(x:α:=by exact ⟨none,0,0,[],hcs,Rd.nil_,Nat.le_refl _,rfl,ZD x.1⟩):α:=x
abbrev Qt9(x:α:=by exact ⟨n.toNat,by omega⟩):α:=x
abbrev Qun(x:α:=by exact ⟨.nil,.nil _,hp,by show 0+(D.length+1)<=_;omega,HX.out⟩):α:=x
abbrev Q9Y(x:α:=by exact (zi1 (j:=0) (hj:=hlt))):α:=x
abbrev QlR(x:α:=by exact (fun q hq=>hb.cell hq)):α:=x
abbrev Q9i(x:α:=by exact (fun k hk=>h1 k QhU)):α:=x
abbrev Qoh(x:α:=by rintro w' ⟨x,rfl⟩;exact Calls.up (X2 _)):α:=x
abbrev QnG(x:α:=by rintro w' ⟨x,rfl⟩;exact Calls.up (X8 _)):α:=x
abbrev QmZ(x:α:=by exact (28,.int .i64 (t:Int))):α:=x
abbrev QlZ(x:α:=by exact (27,.int .i64 (i:Int))):α:=x
abbrev QlF(x:α:=by simp only[VF.len_snoc];exact h):α:=x
abbrev QnA(x:α:=by exact ⟨by rw[HF.out],Q48 (Jb HB2.out Q2 _ _) _⟩):α:=x
abbrev QmD(x:α:=by exact Zc mc4 rfl (fun w hw=>Qry 2 3 H.out hw rfl rfl hlen)):α:=x
abbrev Qni(x:α:=by exact Q3 (show Below w.heap.size w wr from XF HWB.out hbw)):α:=x
abbrev Q6F(x:α:=by exact absurd h.1 Q1):α:=x
abbrev QmX(x:α:=by rintro w' ⟨x,rfl⟩;exact Calls.up (Xj _)):α:=x
abbrev Qax(x:α:=by exact (Nat.lt_irrefl 0)):α:=x
abbrev Q66(x:α:=by exact (5,.pointer Q6b)):α:=x
abbrev Qfz(x:α:=by simp only[Value.slice.injEq] at hv;omega):α:=x
abbrev QeJ(x:α:=by simp [sizeOf,typeInfo,hi,hs,sliced,ZC]):α:=x
abbrev Ql1(x:α:=by rw[Bool.eq_iff_iff];simp only[Bool.and_eq_true,decide_eq_true_eq];omega):α:=x
abbrev Qum(x:α:=by exact ⟨name,9,bs,size,big,mn,mx,stop,count,elem,names,parts⟩):α:=x
abbrev Qjy(x:α:=by exact (Qg rfl rfl Q1 rfl rfl (fun w hw=>Q7h 6 w))):α:=x
abbrev QkK(x:α:=by exact (Qg rfl rfl Q1 rfl rfl (fun w hw=>Q7h 5 w))):α:=x
abbrev Qo4(x:α:=by rintro w' ⟨x,rfl⟩;exact Calls.up (Xv _)):α:=x
abbrev Qmt(x:α:=by rw[<- QH hg];exact Qap b.1 (by show z.1.len<=1048576;omega)):α:=x
abbrev Q9C(x:α:=by exact List.length_append ..):α:=x
abbrev QtE(x:α:=by exact (show i<names.length by omega)):α:=x
abbrev Q2s(x:α:=by exact (ha.eval hc)):α:=x
abbrev QjU(x:α:=by simpa [Addr.add] using h0):α:=x
abbrev Q9L(x:α:=by exact (Q1b F elem p (n+1))):α:=x
abbrev QfW(x:α:=by exact (Qe.sel [4,2] Q1 rfl)):α:=x
abbrev Qu4(x:α:=by exact (7,.int .i64 (n:Int))):α:=x
abbrev Qk5(x:α:=by exact (3,.slice QcE i c')):α:=x
abbrev Qar(x:α:=by exact (.cons rfl rfl Qlk)):α:=x
abbrev QtD(x:α:=by obtain⟨b',o'',e',hlt,_⟩:=hl.p.2 h0;rw[h] at e';cases e';exact hlt):α:=x
abbrev Qf0(x:α:=by have:=(H.out.far _ e).1;omega):α:=x
abbrev QsV(x:α:=by simp only[execOp,ho,ha.eval hx,Sem.run_bind,h,Result.andThen_ok];rfl):α:=x
abbrev QjA(x:α:=by rw[<- HC.out];simp [XM,hk1,hk7,hk8,h1,h2,h3,h4,h6,h7,h8,h10,h11]):α:=x
abbrev Qkn(x:α:=by exact ⟨by rw[Qis HX.out HP.out HF.out];rfl,HB2.out⟩):α:=x
abbrev Qlc(x:α:=by exact Q3 (show ZV l from hfl)):α:=x
abbrev Qfp(x:α:=by rw[hd];exact ha.put _ hN):α:=x
abbrev QfE(x:α:=by subst hb;simp [execOp,ho,hx,hy,go_sem]):α:=x
abbrev Qt5(x:α:=by exact ⟨y.Ab,y.nb,y.cb,y.An,y.nn,y.cn,y.Ap,y.np,y.cp,y.L⟩):α:=x
abbrev QaU(x:α:=by exact ⟨_,_,_,_,_,he,h⟩):α:=x
abbrev Q9P(x:α:=by exact fun _=>by kernel_rfl):α:=x
abbrev QnY(x:α:=by exact Q48 HB2.out (.cells #[.int .i64 c,.int .i64 ix] 32)):α:=x
abbrev Qa0(x:α:=by exact (heap_alloc_new _ _)):α:=x
abbrev Q9S(x:α:=by exact (fun _ hw=>hw.tl.tl)):α:=x
abbrev Q9R(x:α:=by exact (decide_eq_false hb)):α:=x
abbrev Qkl(x:α:=by exact (Nat.lt_succ_self n)):α:=x
abbrev Qu8(x:α:=by exact (1,.slice V7 n c)):α:=x
abbrev QsW(x:α:=by exact (0,.slice V7 n c)):α:=x
abbrev Quj(x:α:=by exact (.cons rfl rfl .nil)):α:=x
abbrev Qor(x:α:=by exact ⟨Ab,cb,An,cn,Ap,cp,rfl,rfl,rfl,h1,h2,h3,h4,h5,h6⟩):α:=x
abbrev QmY(x:α:=by exact Vw (n:=x.1) (q:=x.2) (hno (.inl h6)).numK hp hx):α:=x
abbrev QeQ(x:α:=by exact XT (QbT Q2) rfl):α:=x
abbrev Q6L(x:α:=by exact [J9,Q3C]):α:=x
abbrev Qow(x:α:=by exact [(0,.agg (Q5f i).toArray),(1,.agg (Q5f j).toArray)]):α:=x
abbrev Qmp(x:α:=by exact List.eq_nil_of_length_eq_zero (by simpa using hown.1)):α:=x
abbrev Q43(x:α:=by exact Int.le_refl _):α:=x
abbrev QlO(x:α:=by exact HF1.out.alloc (.cells #[.int .i64 c,.int .i64 ix] 32)):α:=x
abbrev QoA(x:α:=by exact (QnP rfl rfl rfl (fun w hw=>hw.cell_rd 0 rfl hkw))):α:=x
abbrev QjF(x:α:=by exact (show ¬(2:Int)=3 by decide)):α:=x
abbrev Qkk(x:α:=by exact (Zu (j:=n) rfl rfl Q1 rfl rfl rfl Q2)):α:=x
abbrev Qml(x:α:=by exact (HB.out.cell Vb).trans hc):α:=x
abbrev Qe8(x:α:=by exact (H.out.nextW hw 2 3 rfl rfl)):α:=x
abbrev Qo1(x:α:=by simp only;rw[Vm Q2 Q2,Vm Q2 Q2];rfl):α:=x
abbrev Qkt(x:α:=by rw[<- HC.out];simp [XM,hk1,hk7,hk8,h1,h2,h3,h4,h6,h9,h10,h11]):α:=x
abbrev QkW(x:α:=by rw[<- HC.out];simp [XM,hk1,hk7,hk8,h1,h2,h3,h4,h5,h6,h10,h11]):α:=x
abbrev Qma(x:α:=by exact mk _ _ h (dull _ rfl rfl rfl rfl _ XU fun _=>rfl)):α:=x
abbrev Qm2(x:α:=by exact (QC _ _ _ rfl rfl rfl (fun w hw=>Qt1 5 6 hw))):α:=x
abbrev QmU(x:α:=by exact (Xd (j:=j) rfl rfl Q1 rfl rfl rfl hjm)):α:=x
abbrev Qjt(x:α:=by rintro e w' ⟨n,rfl,_,_,hb⟩;exact⟨n,rfl,trivial,hw.on hb⟩):α:=x
abbrev Q0n(x:α:=by exact Nat.le_refl _):α:=x
abbrev QeZ(x:α:=by exact (fun k hk=>XH hv.toUsd f QhM)):α:=x
abbrev QtG(x:α:=by exact (QP rfl rfl Q1 rfl rfl (fun w hw=>hw.cell_old hcx Qdo))):α:=x
abbrev Qu0(x:α:=by exact (QM (j:=0) rfl rfl Q1 rfl rfl rfl Q7U)):α:=x
abbrev QdM(x:α:=by exact (List.length_append ..).symm):α:=x
abbrev Q7a(x:α:=by exact (hW.own i _ hO)):α:=x
abbrev Qos(x:α:=by exact (fun e w' ⟨i,h1,h2,h3⟩=>⟨i,h1,h2,hw.on h3⟩)):α:=x
abbrev Q9J(x:α:=by exact (decide_eq_true hb)):α:=x
abbrev QfM(x:α:=by simpa using hl):α:=x
abbrev QkM(x:α:=by simpa using h1):α:=x
abbrev QoF(x:α:=by simp [results,Tryz.results101,go_sem,r0,r1,z4]):α:=x
abbrev Q9X(x:α:=by exact (Wd.start [] w)):α:=x
abbrev QtO(x:α:=by exact (Nat.mul_le_mul_right _ h2)):α:=x
abbrev QeM(x:α:=by exact (List.length_filter_le _ _)):α:=x
abbrev Qou(x:α:=by exact (.agg #[.int .i64 d2.k,.int .i64 d2.n,sb2,sn2,sp2])):α:=x
abbrev QtB(x:α:=by exact (.agg #[.int .i64 d1.k,.int .i64 d1.n,sb1,sn1,sp1])):α:=x
abbrev Qfe(x:α:=by go_ret;exact QnJ):α:=x
abbrev Qn0(x:α:=by exact (RsV.cell1 rfl (fun w hw=>hw.cell_blkL 5 rfl rfl))):α:=x
abbrev Qny(x:α:=by simp [execOp,ho,ha.eval hx,ha.eval hy,QeS h1 hcell hfr]):α:=x
abbrev QjT(x:α:=by rw[<- HC.out];simp [XM,hk1,hk7,hk8,h1,h2,h3,h4,h6,h10,h11]):α:=x
abbrev Qoz(x:α:=by rw[hrun] at hre;injection hre with e1 e2;rw[e1] at hb;exact hb):α:=x
section
variable{p q:Prop}(hq:q)
include hq
theorem mc7(h:Hq q->p:=by intro h0';(repeat(first|refine Q4 zA ?_|refine Qc ?_|refine Qa ?_|refine Q6 ?_|refine Qu ?_|refine Qo ?_|refine Qt ?_));exact h0'.o):p:=h ⟨hq⟩
theorem Yy(h:Hq q->p:=by intro h0';simp only[List.append_eq,List.cons_append,List.nil_append,List.take_succ_cons,List.take_zero];exact h0'.o):p:=h ⟨hq⟩
theorem QvW(h:Hq q->p:=by intro h0';refine yW 0 ?_;refine yl<|yn<|yq<|yq<|yr<|yo zM<|yo (zD 0)<|yo (zD 1) ?_;refine Q4 (Qg rfl rfl Q1 rfl rfl (fun w hw=>HFC.out w (H.out.nextW hw 2 3 rfl rfl) (HRU.out.below (H.out.below hw.k)) (HVAL.out.below (H.out.below hw.k) (Nat.le_refl _)))) ?_;exact h0'.o):p:=h ⟨hq⟩
theorem Qwi(h:Hq q->p:=by intro h0';refine yo zF<|yo zF<|yo (zB 1)<|yo zM ?_;refine Q4 (QF rfl rfl Q1 rfl rfl rfl hkn) ?_;refine Q4 (QV rfl rfl Q1 rfl rfl (fun w hw=>hw.range_old hrg hbM) rfl) ?_;exact h0'.o):p:=h ⟨hq⟩
theorem Qop(h:Hq q->p:=by intro h0';refine yl<|yn<|yq<|yr<|yo (zB 1) ?_;refine Q4 mc5 ?_;refine yo zF<|yo zF<|yo (zB 2)<|yo zM ?_;refine Q4 (QF rfl rfl Q1 rfl rfl rfl hkn) ?_;refine Q4 (QV rfl rfl Q1 rfl rfl (fun w hw=>hw.range_old hrg (by simpa using hbg)) rfl) ?_;exact h0'.o):p:=h ⟨hq⟩
theorem Q9A(h:Hq q->p:=by intro h0';refine yn<|y0<|ys<|yn<|yq<|yr<|yo zM ?_;refine Q4 mc5 ?_;refine yo zF<|yo (zB 2)<|yo zP ?_;refine Q4 mc5 ?_;refine yo zF ?_;refine yS 2 ?_;exact h0'.o):p:=h ⟨hq⟩
theorem QmS(h:Hq q->p:=by intro h0';(refine Yy ?_;repeat(first|refine Zg rfl rfl Q1 rfl rfl ?_|refine XW rfl Q1 rfl Q1 rfl rfl ?_|refine Xz HV rfl rfl Q1 rfl rfl rfl ?_|refine JJ rfl rfl Q1 rfl rfl rfl Qx ?_|refine X1 rfl rfl Q1 rfl rfl rfl ?_|refine Q0d rfl Q1 rfl ?_));exact h0'.o):p:=h ⟨hq⟩
theorem QdE(h:Hq q->p:=by intro h0';refine Q4 zA ?_;refine Qc ?_;exact h0'.o):p:=h ⟨hq⟩
theorem QpK(h:Hq q->p:=by intro h0';refine Q9 zF ?_;refine Q9 (zB 0) ?_;exact h0'.o):p:=h ⟨hq⟩
theorem Qus(h:Hq q->p:=by intro h0';refine yq<|yb<|yq<|yr<|yo zM ?_;refine Q4 Q6g ?_;refine yo zF<|yo (zB 0)<|yo zea<|yo zM<|yo zS<|yo zS<|yo zS<|yo zS<|yo zS<|yo zS<|yo zN<|yo zA<|yl<|yn<|y0<|yq<|yq<|yr<|yo zM<|yo zO<|yo zA<|yl<|yn<|y0<|yq<|yr<|yo zM ?_;refine Q4 mc5 ?_;exact h0'.o):p:=h ⟨hq⟩
theorem JQ(h:Hq q->p:=by intro h0';rw[Q6Y (by dsimp only;omega) (by dsimp only;omega)];exact h0'.o):p:=h ⟨hq⟩
theorem Q62(h:Hq q->p:=by intro h0';(refine Yy ?_;repeat(first|refine Zg rfl rfl Q1 rfl rfl ?_|refine Xt rfl rfl Q1 rfl rfl rfl ?_|refine Q0d rfl Q1 rfl ?_));exact h0'.o):p:=h ⟨hq⟩
theorem QlV(h:Hq q->p:=by intro h0';refine Q9 zM ?_;refine Q9 zM ?_;exact h0'.o):p:=h ⟨hq⟩
theorem Qvv(h:Hq q->p:=by intro h0';refine Q4 Q7l ?_;refine yo zM ?_;refine Q4 (Q7e (k:=.u8) rfl rfl Q1 rfl rfl rfl hsub) ?_;refine Q4 (Yk rfl rfl Q1 rfl rfl rfl Tryz.underlying3 hcv2) ?_;exact h0'.o):p:=h ⟨hq⟩
theorem Qmn(h:Hq q->p:=by intro h0';refine yn<|yq<|yq<|yr<|yo zF<|yo (zB 1)<|yo zF<|yo (zB 0)<|yo znf<|yo zM<|yo zF<|yo (zB 1)<|yo zF<|yo (zB 0)<|yo znf<|yo zN<|yo zM<|yo zF<|yo (zB 1)<|yo zF<|yo (zB 0) ?_;refine Q4 (Qg rfl rfl Q1 rfl rfl (fun w hw=>hby w hw)) ?_;refine yo zO<|yo zN<|yo zM<|yo zF<|yo (zB 1)<|yo zF<|yo (zB 0) ?_;refine Q4 (Qg rfl rfl Q1 rfl rfl (fun w hw=>hst w hw)) ?_;exact h0'.o):p:=h ⟨hq⟩
theorem Q4W(h:Hq q->p:=by intro h0';refine Q9 zM ?_;refine Q9 mc5 ?_;refine Q9 zF ?_;exact h0'.o):p:=h ⟨hq⟩
theorem Qlm(h:Hq q->p:=by intro h0';(repeat(first|refine Q4 zM ?_|refine Qc ?_|refine Qa ?_|refine Q6 ?_|refine Q7 rfl ?_|refine Xe ?_|refine Q4 (XZ rfl rfl Q1 rfl rfl rfl (by first|exact decide_eq_false Q2|rfl)) ?_|refine Q4 zP ?_));exact h0'.o):p:=h ⟨hq⟩
theorem QrY(h:Hq q->p:=by intro h0';refine yn<|yb<|yq<|yr<|yo zef<|yo zA<|yl<|yn<|y0<|yq<|yq<|yr<|yo zef<|yo zA<|yl<|yn<|y0<|yr<|yo zef<|yo zA<|yl<|yn<|y0<|yq<|yr<|yo zef<|yo zA<|yl<|yn<|y0<|yq<|yr<|yo zef<|yo zA<|yl<|yn<|y0<|yq<|yr<|yo zef<|yo zA<|yl<|yn<|y0<|yq<|yr<|yo zef<|yo zA<|yl<|yn<|y0<|yq<|yr<|yo zef<|yo zA<|yl<|yn<|y0<|yq<|yr<|yo zet<|yo zA<|yl<|yn<|y1<|yq<|yr<|yo (zB 2) ?_;exact h0'.o):p:=h ⟨hq⟩
theorem QdD(h:Hq q->p:=by intro h0';refine yn<|yq<|yr<|yo (zD 0) ?_;refine Q4 mc6 ?_;refine Q4 (KJ rfl rfl Q1 rfl rfl rfl hne) ?_;exact h0'.o):p:=h ⟨hq⟩
theorem Q2X(h:Hq q->p:=by intro h0';simp only[List.append_eq,List.cons_append,List.nil_append,List.drop_succ_cons,List.drop_zero];exact h0'.o):p:=h ⟨hq⟩
theorem Qg1(h:Hq q->p:=by intro h0';refine wpS_of_wp ?_;simp only[Array.replicate_succ,Array.replicate_zero,List.push_toArray,List.append_toArray,List.nil_append,List.cons_append,List.setIfInBounds_toArray,List.set_cons_zero,List.set_cons_succ];exact h0'.o):p:=h ⟨hq⟩
theorem QlQ(h:Hq q->p:=by intro h0';refine Q9 zF ?_;refine Q9 (zB 1) ?_;exact h0'.o):p:=h ⟨hq⟩
theorem Q1n(h:Hq q->p:=by intro h0';refine yl<|yn<|yq<|yr<|yo zM ?_;refine Q4 mc5 ?_;refine Qwi ?_;exact h0'.o):p:=h ⟨hq⟩
theorem Q4r(h:Hq q->p:=by intro h0';rw[Bool.not_eq_true',Bool.and_eq_false_iff,beq_eq_false_iff_ne,beq_eq_false_iff_ne];exact h0'.o):p:=h ⟨hq⟩
theorem Qrh(h:Hq q->p:=by intro h0';refine yb<|yq<|yr ?_;refine Q4 (Xl (v:=.bool false) rfl Q1 rfl (fun ρ w ha _=>by have h5:=ha.eval (x:=.tmp 5) rfl;have hc:ρ (.const .nilIface)=.nilIface:=ha.eval rfl;simp [execOp,h5,hc,heq,eqGuard,go_sem])) ?_;refine yl<|yn<|y0<|yq<|yr ?_;refine Q4 (Xl (v:=.tuple #[.agg #[.int .i64 c,.int .i64 x],.bool true]) rfl Q1 rfl (fun ρ w ha _=>by have h5:=ha.eval (x:=.tmp 5) rfl;simp [execOp,h5,hta,Sem.run_bind,go_sem])) ?_;refine yo zX<|yo zX<|yl<|yn<|y1<|yq<|yr ?_;exact h0'.o):p:=h ⟨hq⟩
theorem QkA(h:Hq q->p:=by intro h0';refine Q9 zA ?_;refine XV ?_;exact h0'.o):p:=h ⟨hq⟩
theorem Qwc(h:Hq q->p:=by intro h0';(repeat(first|refine Q4 zM ?_|refine Q4 zF ?_|refine Q4 (zB 1) ?_|refine Qc ?_|refine Qa ?_|refine Q6 ?_|refine Q7 rfl ?_|refine Xe ?_|refine Qh ?_|refine Q4 zL ?_|refine Q4 zlf ?_));exact h0'.o):p:=h ⟨hq⟩
theorem QrL(h:Hq q->p:=by intro h0';(refine Yy ?_;repeat(first|refine Zg rfl rfl Q1 rfl rfl ?_|refine XW rfl Q1 rfl Q1 rfl rfl ?_|refine Xz HV rfl rfl Q1 rfl rfl rfl ?_|refine Q0P HV rfl rfl Q1 rfl rfl rfl ?_|refine Q5X rfl Tryz.underlying27 rfl Q1 rfl rfl ?_|refine JJ rfl rfl Q1 rfl rfl rfl Qx ?_|refine X1 rfl rfl Q1 rfl rfl rfl ?_|refine Xt rfl rfl Q1 rfl rfl rfl ?_));exact h0'.o):p:=h ⟨hq⟩
theorem QmK(h:Hq q->p:=by intro h0';refine yq<|yr<|yo zlt<|yl<|yn<|yq<|y1<|ys<|yn<|yq<|yb<|yq<|yr<|yo zi1 ?_;refine Q4 (QP rfl rfl Q1 rfl rfl (fun w hw=>hw.cell_old hcell (by simpa using hqg))) ?_;refine yo zA<|yl<|yn<|yq<|yq<|yr<|yo zM ?_;exact h0'.o):p:=h ⟨hq⟩
theorem QrE(h:Hq q->p:=by intro h0';(refine Yy ?_;repeat(first|refine Zg rfl rfl Q1 rfl rfl ?_|refine XW rfl Q1 rfl Q1 rfl rfl ?_|refine Xz HV rfl rfl Q1 rfl rfl rfl ?_|refine Q0J HV rfl rfl Q1 rfl rfl rfl ?_|refine JJ rfl rfl Q1 rfl rfl rfl Qx ?_|refine X1 rfl rfl Q1 rfl rfl rfl ?_|refine Xt rfl rfl Q1 rfl rfl rfl ?_|refine Qmm rfl rfl Q1 rfl rfl ?_));exact h0'.o):p:=h ⟨hq⟩
theorem QqK(h:Hq q->p:=by intro h0';refine yq<|yq<|Xh Q5 Q5 ?_;refine Q9 zM ?_;refine Q9 (Qg rfl rfl Q1 rfl rfl (fun w hw=>Q2G (H.out.next hw.k hpi (hw.own 1 _ rfl)) HC.out)) ?_;refine Q9 Q6g ?_;refine Q9 zF ?_;exact h0'.o):p:=h ⟨hq⟩
theorem QrX(h:Hq q->p:=by intro h0';refine yS 0 ?_;refine yl<|yn<|yq<|yr<|yo zF<|yo (zB 1)<|yo zu ?_;refine Q4 (Qg rfl rfl Q1 rfl rfl (fun w hw=>(Q7x (H.out.next hw.k hp (hw.own 4 _ rfl)) (hw.cell_blk 3 rfl rfl) (hw.cell_blkL 0 rfl rfl) ((HRP.out.below (hw.k.belowB H.out.hB H.out.lt)).more (by have:=H.out.hB;have:=H.out.lt;have:=hw.k.size;omega)) Q2 HPT.out).mono (fun e w' h=>by rw[HI.out] at h;exact h))) ?_;exact h0'.o):p:=h ⟨hq⟩
theorem Qwh(h:Hq q->p:=by intro h0';refine Q4 mc6 ?_;refine Q4 (KJ rfl rfl Q1 rfl rfl rfl hne) ?_;refine yl<|yn<|y1<|yq ?_;refine Xw [.blk b6 (.cells ([.int .i64 a,.int .i64 b]:List Value).toArray 32 (0,0))] [] Q5 ?_;exact h0'.o):p:=h ⟨hq⟩
theorem Q02(h:Hq q->p:=by intro h0';(repeat(first|refine Qc ?_|refine Qu ?_));exact h0'.o):p:=h ⟨hq⟩
theorem QqE(h:Hq q->p:=by intro h0';(refine Yy ?_;repeat(first|refine Zg rfl rfl Q1 rfl rfl ?_|refine XW rfl Q1 rfl Q1 rfl rfl ?_|refine Xz HV rfl rfl Q1 rfl rfl rfl ?_|refine Q3x HV rfl rfl Q1 rfl rfl rfl ?_|refine Q5X rfl Tryz.underlying25 rfl Q1 rfl rfl ?_|refine JJ rfl rfl Q1 rfl rfl rfl Qx ?_|refine Xt rfl rfl Q1 rfl rfl rfl ?_));exact h0'.o):p:=h ⟨hq⟩
theorem QkB(h:Hq q->p:=by intro h0';refine Q4 mc5 ?_;refine yo zF<|yo (zB 1)<|yo zP ?_;refine Q4 mc5 ?_;refine yo zF ?_;refine yS 1 ?_;exact h0'.o):p:=h ⟨hq⟩
theorem QrQ(h:Hq q->p:=by intro h0';refine yn<|yq<|yq<|yr<|yo zM ?_;refine Q4 (Qmw rfl rfl Q1 rfl rfl) ?_;refine yo zF<|yo (zB 0)<|yo zM<|yo zL<|yo zlf<|yl<|yn<|y0<|ys<|yn<|yq<|yq<|yr<|yo (zD 3) ?_;refine Q4 (Qg rfl rfl Q1 rfl rfl (fun w hw=>(Q0A HSZ.out (HY2.out.vin fun x hx=>hw.onAll x (by simp [hx]))).mono (fun e w' h=>by rw[HVF.out] at h;exact h))) ?_;refine Q4 mc6 ?_;exact h0'.o):p:=h ⟨hq⟩
theorem Qsk(h:Hq q->p:=by intro h0';refine yq<|yq<|yr<|yo zM<|yo zM<|yo zL<|yo zlt<|yl<|yn<|y1<|ys<|yn<|yq<|yb<|yq<|yr<|yo zM<|yo zM<|yo (zi1 (hj:=hjlt)) ?_;refine Q4 (QP rfl rfl Q1 rfl rfl (fun w hw=>hw.cell_row 0 rfl (by rw[Nat.zero_add];exact hcell))) ?_;refine yo zA<|yl<|yn<|yq<|yr<|yo zM<|yo zM ?_;refine Q4 (Jw rfl rfl Q1 rfl rfl rfl (fun w hw=>KT _ w)) ?_;rw[he];exact h0'.o):p:=h ⟨hq⟩
theorem Qrx(h:Hq q->p:=by intro h0';refine XV ?_;refine yn<|y0<|ys<|yn<|yr<|yo zM<|yo zP<|yo zA<|yl ?_;exact h0'.o):p:=h ⟨hq⟩
theorem Qw4(h:Hq q->p:=by intro h0';refine yq<|yq<|yr<|yo zM<|yo zM<|yo zL<|yo zlt<|yl<|yn<|y1<|ys<|yn<|yq<|yb<|yq<|Xh Q5 Q5 ?_;refine Q9 zM ?_;exact h0'.o):p:=h ⟨hq⟩
theorem Qrb(h:Hq q->p:=by intro h0';(refine Yy ?_;repeat(first|refine Zg rfl rfl Q1 rfl rfl ?_|refine XW rfl Q1 rfl Q1 rfl rfl ?_|refine Q0J HV rfl rfl Q1 rfl rfl rfl ?_|refine X1 rfl rfl Q1 rfl rfl rfl ?_|refine Xt rfl rfl Q1 rfl rfl rfl ?_|refine Qmm rfl rfl Q1 rfl rfl ?_|refine Q0d rfl Q1 rfl ?_));exact h0'.o):p:=h ⟨hq⟩
theorem QgM(h:Hq q->p:=by intro h0';rw[show Q45 r Ab An Ap cb cn cp g gf=#[.agg (ruC r (.slice Ab r.bs.length cb) (.slice An r.names.length cn) (.slice Ap r.parts.length cp)).toArray,.pointer (some ⟨g,0,none⟩),.pointer (some ⟨gf,0,none⟩)] from Qsz _ _ _];exact h0'.o):p:=h ⟨hq⟩
theorem QhV(h:Hq q->p:=by intro h0';(repeat(first|refine Q4 zM ?_|refine Q4 zA ?_|refine Q4 zF ?_|refine Q4 (zB 0) ?_|refine Q4 QuY ?_|refine Qc ?_|refine Qa ?_|refine Q6 ?_|refine Q4 zhr ?_));exact h0'.o):p:=h ⟨hq⟩
theorem QoG(h:Hq q->p:=by intro h0';(repeat(first|refine Q4 zM ?_|refine Q4 zA ?_|refine Q4 zF ?_|refine Q4 (zB 0) ?_|refine Qc ?_|refine Qa ?_|refine Q6 ?_|refine Q7 rfl ?_|refine Q4 zL ?_|refine Q4 Qgf ?_|refine Q4 zgr ?_|refine Q4 zN ?_|refine Q4 zS ?_));exact h0'.o):p:=h ⟨hq⟩
theorem Qg8(h:Hq q->p:=by intro h0';(repeat(first|refine Q4 zM ?_|refine Q4 zA ?_|refine Q4 (zD 0) ?_|refine Q4 Qvl ?_|refine Qc ?_|refine Qa ?_|refine Q6 ?_|refine Q4 zO ?_));exact h0'.o):p:=h ⟨hq⟩
theorem Qh3(h:Hq q->p:=by intro h0';(repeat(first|refine Q4 zA ?_|refine Q4 zF ?_|refine Q4 (zB 0) ?_|refine Q4 Qo7 ?_|refine Qc ?_|refine Qa ?_|refine Q6 ?_|refine Q4 zO ?_));exact h0'.o):p:=h ⟨hq⟩
theorem QqL(h:Hq q->p:=by intro h0';refine Q5U 3 1 ?_;refine Z0 (ι:=Nat×Option Addr×Nat) (fun y=>y.1<=256) (fun y=>256 - y.1) (fun y=>[(5,.pointer (some ⟨b3,0,none⟩)),(7,.slice y.2.1 (Jd st y.1).length y.2.2),(21,.agg (Xc st).toArray),(22,.int .i64 (y.1:Int))]) (fun y=>[.row y.2.1 (Jd st y.1).length y.2.2 3 1 (iv (Jd st y.1)),.blk b3 Qrq]) (0,none,0) [0,3] Q1 JR mc1 rfl ?_;exact h0'.o):p:=h ⟨hq⟩
theorem Qmd(h:Hq q->p:=by intro h0';refine Qi 3 rfl Q5 Z4 zF ?_;refine Qi 4 rfl Q5 Z4 (zB 2) ?_;refine Qi 5 rfl Q5 Z4 (Qg (f:=114) rfl rfl Q1 rfl rfl (fun w hw=>KS Kt Q2 Q2)) ?_;exact h0'.o):p:=h ⟨hq⟩
theorem Qv5(h:Hq q->p:=by intro h0';refine Xw [.blk g (.cells ([.slice Af nn cf,.slice Ai (xs++uy.take i).length ci,.int .i64 (n:Int)]:List Value).toArray 77 (0,0))] [13] Q5 ?_;refine Qi 0 rfl Q5 Q9p zM ?_;refine Qi 1 rfl Q5 Q9p zM ?_;refine Qi 2 rfl Q5 Q9p mc5 ?_;refine Qi 3 rfl Q5 Q9p zF ?_;refine Qi 4 rfl Q5 Q9p (zB 0) ?_;exact h0'.o):p:=h ⟨hq⟩
theorem QuQ(h:Hq q->p:=by intro h0';refine yq<|yq<|yr<|yo zM<|yo zF<|yo (zB 1)<|yo zL<|yo zlt<|yl<|yn<|y1<|ys<|yn<|yq<|yb<|yq<|Xh Q5 Q5 ?_;refine QlQ ?_;refine Q9 zM ?_;refine Q9 (zi (hj:=hilt)) ?_;refine Q9 (QV rfl rfl Q1 rfl rfl (fun w hw=>hw.range_old hg1 Qn) rfl) ?_;refine QpK ?_;refine Q9 zM ?_;refine Q9 (zi (hj:=hilt)) ?_;exact h0'.o):p:=h ⟨hq⟩
theorem QcM(h:Hq q->p:=by intro h0';refine yW 0 ?_;refine yl<|yn<|yq<|yq<|yr<|yo zF<|yo (zB 0)<|yl ?_;exact h0'.o):p:=h ⟨hq⟩
theorem Qi0(h:Hq q->p:=by intro h0';(repeat(first|refine Q4 zA ?_|refine Qc ?_|refine Qa ?_|refine Q6 ?_|refine Qp ?_|refine Qu ?_));exact h0'.o):p:=h ⟨hq⟩
theorem Q4X(h:Hq q->p:=by intro h0';rw[Qba (by dsimp only;omega) (by dsimp only;omega)];exact h0'.o):p:=h ⟨hq⟩
theorem Qrc(h:Hq q->p:=by intro h0';(repeat(first|refine Q4 zM ?_|refine Q4 zA ?_|refine Q4 zF ?_|refine Q4 (zB 0) ?_|refine Qc ?_|refine Qa ?_|refine Q6 ?_|refine Q7 rfl ?_|refine Q4 zL ?_|refine Q4 zea ?_|refine Q4 (Q0L rfl rfl Q1 rfl rfl rfl (by first|assumption|rfl)) ?_|refine Q4 zN ?_|refine Q4 zS ?_));exact h0'.o):p:=h ⟨hq⟩
theorem QrD(h:Hq q->p:=by intro h0';refine Q4 zM ?_;refine Q4 zM ?_;exact h0'.o):p:=h ⟨hq⟩
theorem QrN(h:Hq q->p:=by intro h0';(repeat(first|refine Q4 zM ?_|refine Q4 zA ?_|refine Q4 (KP (v:=.bool false) rfl rfl Q1 rfl rfl rfl hin hcell) ?_|refine Qc ?_|refine Qa ?_|refine Q6 ?_|refine Qp ?_|refine Q8 rfl ?_|refine Q7 rfl ?_|refine Qh ?_|refine Q4 zlt ?_|refine Q4 zP ?_));exact h0'.o):p:=h ⟨hq⟩
theorem Q4I(h:Hq q->p:=by intro h0';refine yo zM<|yo zX<|yo zX ?_;exact h0'.o):p:=h ⟨hq⟩
theorem QuF(h:Hq q->p:=by intro h0';refine XS 0 rfl Q5 Y5 zM ?_;refine XS 1 rfl Q5 Y5 zM ?_;refine XS 2 rfl Q5 Y5 mc5 ?_;refine XS 3 rfl Q5 Y5 zF ?_;refine XS 4 rfl Q5 Y5 zF ?_;refine XS 5 rfl Q5 Y5 (zB 2) ?_;refine XS 6 rfl Q5 Y5 zF ?_;refine XS 7 rfl Q5 Y5 (zB 0) ?_;exact h0'.o):p:=h ⟨hq⟩
theorem QvG(h:Hq q->p:=by intro h0';refine Ja [14] Q5 ?_;refine Qi 0 rfl Q5 Z4 zM ?_;refine Qi 1 rfl Q5 Z4 zM ?_;refine Qi 2 rfl Q5 Z4 zM ?_;refine Qi 3 rfl Q5 Z4 zM ?_;refine Qi 4 rfl Q5 Z4 zM ?_;refine Qi 5 rfl Q5 Z4 zM ?_;refine Qi 6 rfl Q5 Z4 (zi (hj:=hkn)) ?_;exact h0'.o):p:=h ⟨hq⟩
theorem Ql3(h:Hq q->p:=by intro h0';(repeat(first|refine Q4 Jk ?_|refine Qc ?_|refine Qa ?_|refine Q6 ?_|refine Qu ?_|refine Qo ?_|refine Qt ?_));exact h0'.o):p:=h ⟨hq⟩
theorem Qk4(h:Hq q->p:=by intro h0';rw[Nat.zero_add,Nat.mul_one,Q2I];refine Q4 (QV (cs:=Xc _) rfl rfl Q1 rfl rfl (fun w hw=>hw.range_blk 0 rfl) (X4 _)) ?_;exact h0'.o):p:=h ⟨hq⟩
theorem QqC(h:Hq q->p:=by intro h0';(repeat(first|refine Q4 zM ?_|refine Q4 zA ?_|refine Q4 (KP (v:=.bool (st cc)) rfl rfl Q1 rfl rfl rfl hcn (Jc st hcn)) ?_|refine Qc ?_|refine Qa ?_|refine Q6 ?_|refine Qp ?_|refine Q8 rfl ?_|refine Qh ?_|refine Q4 zlt ?_));exact h0'.o):p:=h ⟨hq⟩
theorem Q1j(h:Hq q->p:=by intro h0';rw[QfN hname Q1];unfold XQ;exact h0'.o):p:=h ⟨hq⟩
theorem Qvo(h:Hq q->p:=by intro h0';rw[List.getElem?_map,List.getD_eq_getElem?_getD,List.getElem?_eq_getElem h];exact h0'.o):p:=h ⟨hq⟩
theorem Qcm(h:Hq q->p:=by intro h0';refine Qi 0 rfl Q5 Z4 zM ?_;refine Qi 1 rfl Q5 Z4 (zD 2) ?_;exact h0'.o):p:=h ⟨hq⟩
theorem QqX(h:Hq q->p:=by intro h0';simp only[List.length_append,List.length_cons,List.length_nil];exact h0'.o):p:=h ⟨hq⟩
theorem Qsp(h:Hq q->p:=by intro h0';refine Qi 0 rfl Q5 Q6u zM ?_;refine Qi 1 rfl Q5 Q6u zM ?_;refine Qi 2 rfl Q5 Q6u mc5 ?_;refine Qi 3 rfl Q5 Q6u zF ?_;refine Qi 4 rfl Q5 Q6u (zB 1) ?_;refine Qi 5 rfl Q5 Q6u zF ?_;refine Qi 6 rfl Q5 Q6u (zB 0) ?_;exact h0'.o):p:=h ⟨hq⟩
theorem QsE(h:Hq q->p:=by intro h0';refine Qi 0 rfl Q5 Q0F zM ?_;refine Qi 1 rfl Q5 Q0F zM ?_;refine Qi 2 rfl Q5 Q0F mc5 ?_;refine Qi 3 rfl Q5 Q0F zF ?_;refine Qi 4 rfl Q5 Q0F (zB 1) ?_;refine Qi 5 rfl Q5 Q0F zF ?_;refine Qi 6 rfl Q5 Q0F (zB 0) ?_;exact h0'.o):p:=h ⟨hq⟩
theorem QlE(h:Hq q->p:=by intro h0';refine bodyPost_ret (v:=.tuple #[.int .i64 0,.agg #[.int .i64 2,.int .i64 (num:Int)]]) (by simp [results,Tryz.results101,go_sem]) rfl ?_;exact h0'.o):p:=h ⟨hq⟩
theorem Qrd(h:Hq q->p:=by intro h0';refine Qw4 ?_;refine Q9 zM ?_;refine Q9 (zi1 (hj:=hin)) ?_;refine Q9 (QP rfl rfl Q1 rfl rfl (fun w hw=>hw.cell_rd 0 rfl hcv2)) ?_;refine Q9 zM ?_;refine Q9 (zi1 (j:=0) (hj:=hl0)) ?_;refine Q9 (zG hcell) ?_;refine Q9 Q6g ?_;exact h0'.o):p:=h ⟨hq⟩
theorem Qr3(h:Hq q->p:=by intro h0';refine yq<|yq<|Xh Q5 Q5 ?_;refine Q9 (zB 3) ?_;refine Q9 (Qg rfl rfl Q1 rfl rfl (fun w hw=>Q2G (H.out.next hw.k hq (hw.own 4 _ rfl)) HC.out)) ?_;refine Q9 Q6g ?_;refine QlQ ?_;refine Q9 zna ?_;refine XV ?_;exact h0'.o):p:=h ⟨hq⟩
theorem QvL(h:Hq q->p:=by intro h0';refine Q4 mc6 ?_;refine Q4 (KJ rfl rfl Q1 rfl rfl rfl hne2) ?_;refine yl<|yn<|y1<|yq ?_;refine Xw [.blk b7 (.cells ([.int .i64 a,.int .i64 b]:List Value).toArray 32 (0,0))] [] Q5 ?_;refine Qi 0 rfl Q5 Zi (zD 0) ?_;exact h0'.o):p:=h ⟨hq⟩
theorem Q1q(h:Hq q->p:=by intro h0';refine Qd0 _ Q5 Q5 ?_;exact h0'.o):p:=h ⟨hq⟩
theorem QgX(h:Hq q->p:=by intro h0';(repeat(first|refine Q4 zM ?_|refine Qc ?_|refine Q6 ?_|refine Q4 zP ?_));exact h0'.o):p:=h ⟨hq⟩
theorem Qqz(h:Hq q->p:=by intro h0';refine ih (listed.setIfInBounds j true) (a.put oj.dst u) G (hcl.set hj) hG hGC hfree' (ready_mono hr (Ne.symm hji)) (hy.put (fun cs b=>hsel i oi cs b hi) a3) ?_;rw[Array.setIfInBounds_comm _ _ hji,<- Act.put_comm a v u a2];exact h0'.o):p:=h ⟨hq⟩
theorem Q2Q(h:Hq q->p:=by intro h0';refine yW 0 ?_;refine yl ?_;exact h0'.o):p:=h ⟨hq⟩
theorem Qw8(h:Hq q->p:=by intro h0';refine yo zA<|yl<|yn<|yq<|yq<|yr ?_;refine Q4 (Qg rfl rfl Q1 rfl rfl (fun w hw=>Q7L Kt)) ?_;exact h0'.o):p:=h ⟨hq⟩
theorem Qrn(h:Hq q->p:=by intro h0';refine XV ?_;refine yn<|y1<|yq<|yr<|yo zA<|yl<|yn<|yt<|yk<|yc<|yc<|yk<|yc ?_;exact h0'.o):p:=h ⟨hq⟩
theorem Q36(h:Hq q->p:=by intro h0';refine QvW ?_;refine yo zO<|yl ?_;exact h0'.o):p:=h ⟨hq⟩
theorem QlW(h:Hq q->p:=by intro h0';refine Ja [2] Q5 ?_;refine Qi 0 rfl Q5 Z4 (zD 0) ?_;refine Qi 1 rfl Q5 Z4 zA ?_;exact h0'.o):p:=h ⟨hq⟩
theorem QqA(h:Hq q->p:=by intro h0';(repeat(first|refine Q4 zM ?_|refine Q4 zA ?_|refine Q4 zF ?_|refine Q4 (zB 0) ?_|refine Qc ?_|refine Qa ?_|refine Q6 ?_|refine Q4 zL ?_|refine Q4 Qgf ?_|refine Q4 zY ?_));exact h0'.o):p:=h ⟨hq⟩
theorem Qqy(h:Hq q->p:=by intro h0';(repeat(first|refine Q4 zM ?_|refine Q4 zA ?_|refine Qc ?_|refine Qa ?_|refine Q6 ?_|refine Q7 rfl ?_|refine Xe ?_|refine Qu ?_|refine Q4 zL ?_|refine Q4 zgf ?_));exact h0'.o):p:=h ⟨hq⟩
theorem QvX(h:Hq q->p:=by intro h0';rw[List.getD_eq_getElem?_getD,List.getElem?_eq_getElem h];exact h0'.o):p:=h ⟨hq⟩
theorem Qrs(h:Hq q->p:=by intro h0';refine QqK ?_;refine Q9 (zB 0) ?_;refine Q9 zna ?_;refine XV ?_;refine yn<|y1<|ys<|yn<|yb<|yq<|yq<|Xh Q5 Q5 ?_;refine Q4W ?_;refine Q9 (zB 1) ?_;refine Q9 zM ?_;exact h0'.o):p:=h ⟨hq⟩
theorem Qsf(h:Hq q->p:=by intro h0';refine yq<|yr<|yo zlt<|yl<|yn<|yq<|y1<|ys<|yn<|yq<|yb<|yq<|yr<|yo zM<|yo zi1 ?_;refine Q4 (QP rfl rfl Q1 rfl rfl (fun w hw=>hw.cell_old hcell (by simpa using hqg))) ?_;exact h0'.o):p:=h ⟨hq⟩
theorem QbB(h:Hq q->p:=by intro h0';refine Q4 mc5 ?_;refine yo zF<|yo (zB 1) ?_;exact h0'.o):p:=h ⟨hq⟩
theorem QgU(h:Hq q->p:=by intro h0';refine yo zA ?_;refine yW 0 ?_;exact h0'.o):p:=h ⟨hq⟩
theorem Qhk(h:Hq q->p:=by intro h0';(repeat(first|refine Q4 zA ?_|refine Q4 (zD 0) ?_|refine Q4 Qo3 ?_|refine Qc ?_|refine Qa ?_|refine Q6 ?_|refine Qp ?_|refine Q7 rfl ?_));exact h0'.o):p:=h ⟨hq⟩
theorem Qg3(h:Hq q->p:=by intro h0';(repeat(first|refine Q4 zA ?_|refine Q4 (zD 0) ?_|refine Q4 Qv6 ?_|refine Qc ?_|refine Qa ?_|refine Q6 ?_|refine Q4 zO ?_));exact h0'.o):p:=h ⟨hq⟩
theorem Qs8(h:Hq q->p:=by intro h0';refine QuQ ?_;refine Q9 (QV rfl rfl Q1 rfl rfl (fun w hw=>hw.range_old hg2 Qn) rfl) ?_;refine Q9 (Qg rfl rfl Q1 rfl rfl (fun w hw=>(HAL.out.1 d2 p2 w _ _ HFL.out.1.2.2.1 HFL.out.2.1 HFL.out.2.2.1 (HV1.out.on hw.k.below) (HV2.out.on hw.k.below)).mono (fun e w' h=>by rw[HQ.out] at h;exact h))) ?_;refine Q9 zO ?_;exact h0'.o):p:=h ⟨hq⟩
theorem Qqn(h:Hq q->p:=by intro h0';refine QuF ?_;refine XS 8 rfl Q5 Y5 (QF rfl rfl Q1 rfl rfl rfl hct2) ?_;refine XS 9 rfl Q5 Y5 (QV rfl rfl Q1 rfl rfl (fun w hw=>hw.range_old hrg2 hbM) rfl) ?_;refine XS 10 rfl Q5 Y5 zF ?_;refine XS 11 rfl Q5 Y5 (zB 1) ?_;refine XS 12 rfl Q5 Y5 zL ?_;exact h0'.o):p:=h ⟨hq⟩
theorem Qse(h:Hq q->p:=by intro h0';refine Qv5 ?_;refine Qi 5 rfl Q5 Q9p zM ?_;refine Qi 6 rfl Q5 Q9p zM ?_;refine Qi 7 rfl Q5 Q9p (QmQ rfl rfl Q1 rfl rfl rfl Q2 Q2) ?_;refine Qi 8 rfl Q5 Q9p QhI ?_;exact h0'.o):p:=h ⟨hq⟩
theorem Qsg(h:Hq q->p:=by intro h0';refine QvG ?_;refine Qi 7 rfl Q5 Z4 (Zu rfl rfl Q1 rfl rfl rfl hcn) ?_;refine Qi 8 rfl Q5 Z4 (zK 1 hcell) ?_;refine Qi 9 rfl Q5 Z4 zM ?_;exact h0'.o):p:=h ⟨hq⟩
theorem Q9d(h:Hq q->p:=by intro h0';simp only[List.length_cons];exact h0'.o):p:=h ⟨hq⟩
theorem Qs4(h:Hq q->p:=by intro h0';(repeat(first|refine Q4 zA ?_|refine Q4 zF ?_|refine Q4 (zB 0) ?_|refine Qc ?_|refine Qa ?_|refine Q6 ?_|refine Q4 zL ?_|refine Q4 zgr ?_));exact h0'.o):p:=h ⟨hq⟩
theorem QhA(h:Hq q->p:=by intro h0';refine yq<|yr<|yo zA<|yl<|yn<|yq<|yq<|Xh Q5 Q5 ?_;exact h0'.o):p:=h ⟨hq⟩
theorem QrW(h:Hq q->p:=by intro h0';unfold Oper.wp execOp;simp only[ho,resolve,invoke,builtin,Sem.run_bind,Sem.run_pure,Result.andThen_ok,List.map_toArray,List.map_cons,List.map_nil,hs,hx,hrun];exact h0'.o):p:=h ⟨hq⟩
theorem Qru(h:Hq q->p:=by intro h0';refine Qi 3 rfl Q5 Z4 zF ?_;refine Qi 4 rfl Q5 Z4 (zB 3) ?_;refine Qi 5 rfl Q5 Z4 zF ?_;refine Qi 6 rfl Q5 Z4 (zB 2) ?_;exact h0'.o):p:=h ⟨hq⟩
theorem QvU(h:Hq q->p:=by intro h0';refine QdD ?_;refine yl<|yn<|y1<|yq ?_;refine Xw [.blk b6 (.cells ([.int .i64 a,.int .i64 b]:List Value).toArray 32 (0,0))] [] Q5 ?_;exact h0'.o):p:=h ⟨hq⟩
theorem QvQ(h:Hq q->p:=by intro h0';refine yn<|yq<|yr<|yo zF<|yo (zB 4)<|yo zM ?_;refine Q4 QkS ?_;refine Q4 Qk6 ?_;refine Q4 (Yl rfl rfl Q1 rfl rfl rfl hst) ?_;exact h0'.o):p:=h ⟨hq⟩
theorem QgH(h:Hq q->p:=by intro h0';rw[List.getD_eq_getElem?_getD,List.getElem?_replicate];exact h0'.o):p:=h ⟨hq⟩
theorem Q6X(h:Hq q->p:=by intro h0';refine Q4W ?_;refine Q9 zC ?_;exact h0'.o):p:=h ⟨hq⟩
theorem Qbv(h:Hq q->p:=by intro h0';refine yW 1 ?_;refine yl<|yn<|yt<|yk<|yc ?_;exact h0'.o):p:=h ⟨hq⟩
theorem Qss(h:Hq q->p:=by intro h0';refine yW 0 ?_;refine yl<|yn ?_;refine Xw [.blk b3 (.cells ([.int .i64 c,.int .i64 x]:List Value).toArray 32 (0,0))] [] Q5 ?_;exact h0'.o):p:=h ⟨hq⟩
theorem Q8Z(h:Hq q->p:=by intro h0';refine yn<|yr<|yo zP<|yo zM<|yl ?_;exact h0'.o):p:=h ⟨hq⟩
theorem QqN(h:Hq q->p:=by intro h0';refine yq<|yr<|yo zlt<|yl<|yn<|yq<|y1<|ys<|yn<|yq<|yb<|yq<|yr<|yo zM<|yo zA<|yl<|yn<|yq<|yr<|yo zM ?_;refine Q4 Q7l ?_;exact h0'.o):p:=h ⟨hq⟩
theorem QjP(h:Hq q->p:=by intro h0';refine yl<|yn<|yq<|yq<|yr<|yo (zD 2) ?_;exact h0'.o):p:=h ⟨hq⟩
theorem Qno(h:Hq q->p:=by intro h0';refine Q4 zF ?_;refine Q4 (zB 0) ?_;exact h0'.o):p:=h ⟨hq⟩
theorem Qsq(h:Hq q->p:=by intro h0';refine yq<|yb<|yq<|yr<|yo zM ?_;refine Q4 Q6g ?_;refine yo zF<|yo (zB 0)<|yo zea<|yo zM<|yo zM ?_;refine Q4 mc5 ?_;exact h0'.o):p:=h ⟨hq⟩
theorem Qjz(h:Hq q->p:=by intro h0';refine bodyPost_ret (v:=.agg #[.int .i64 cd,.int .i64 ix]) (by simp [results,Tryz.results34,go_sem,r0,r1,z4]) rfl ?_;exact h0'.o):p:=h ⟨hq⟩
theorem Quu(h:Hq q->p:=by intro h0';refine Qus ?_;refine yo zF<|yo (zB 1)<|yo zM<|yo zgt<|yo zM<|yo zM<|yo zea<|yo zY<|yo zA<|yl<|yn<|y0<|yr<|yo zM ?_;exact h0'.o):p:=h ⟨hq⟩
theorem Qne(h:Hq q->p:=by intro h0';refine QrY ?_;refine Q4 (Qg rfl rfl Q1 rfl rfl (fun w hw=>Q2G Q4S HC.out)) ?_;refine Q4 Q6g ?_;exact h0'.o):p:=h ⟨hq⟩
theorem Qtm(h:Hq q->p:=by intro h0';refine Qus ?_;refine yo zF<|yo (zB 1)<|yo zM<|yo zgf<|yo zM<|yo zS<|yo zS<|yo zN<|yo zA<|yl<|yn<|y0<|yr<|yo zM ?_;exact h0'.o):p:=h ⟨hq⟩
theorem Qek(h:Hq q->p:=by intro h0';refine yo zA<|yl<|yn<|yr<|yo zP<|yo zM<|yl ?_;exact h0'.o):p:=h ⟨hq⟩
theorem Qed(h:Hq q->p:=by intro h0';unfold Vd;rw[if_neg (by simp [h0]),if_neg h1,h];simp only;exact h0'.o):p:=h ⟨hq⟩
theorem QoE(h:Hq q->p:=by intro h0';refine Qvv ?_;refine yo zP<|yo zF<|yo (zB 0)<|yo zgt<|yo zA<|yl<|yn<|y1<|yr<|yo zM ?_;refine QbB ?_;exact h0'.o):p:=h ⟨hq⟩
theorem Qtz(h:Hq q->p:=by intro h0';refine yq<|yr<|yo zA<|yl<|yn<|yq<|Xh Q5 Q5 ?_;exact h0'.o):p:=h ⟨hq⟩
theorem QnH(h:Hq q->p:=by intro h0';refine Q3l (O':=.rd Q3m 1 1 (iv [a])::.blk bx Qcq::.row V7 n c 65 12 (Xq cur)::O) Y2 ?_;exact h0'.o):p:=h ⟨hq⟩
theorem QeL(h:Hq q->p:=by intro h0';refine yq<|yr<|yo zlf<|yl<|yn<|yq<|y0<|ye<|yx<|yx<|yu ?_;exact h0'.o):p:=h ⟨hq⟩
theorem QmN(h:Hq q->p:=by intro h0';refine bodyPost_ret (v:=.tuple #[.slice none 0 0,.agg #[.int .i64 c,.int .i64 ix]]) Qlr rfl ?_;exact h0'.o):p:=h ⟨hq⟩
theorem Qfu(h:Hq q->p:=by intro h0';refine yn<|yq<|yq<|yr<|yo zM ?_;refine Q4 QjX ?_;exact h0'.o):p:=h ⟨hq⟩
theorem QeA(h:Hq q->p:=by intro h0';refine QkA ?_;refine yn<|yt ?_;exact h0'.o):p:=h ⟨hq⟩
theorem Qon(h:Hq q->p:=by intro h0';(repeat(first|refine Q4 ZE ?_|refine Q4 Jk ?_|refine Q4 Qty ?_|refine Q4 QbE ?_|refine Qc ?_|refine Qa ?_|refine Q6 ?_|refine Qp ?_|refine Q8 rfl ?_|refine Qh ?_|refine Q4 QmL ?_));exact h0'.o):p:=h ⟨hq⟩
theorem QlA(h:Hq q->p:=by intro h0';refine Qi 12 rfl Q5 Z4 QsF ?_;refine Qi 13 rfl Q5 Z4 (Zu rfl rfl Q1 rfl rfl rfl hcn) ?_;exact h0'.o):p:=h ⟨hq⟩
theorem Qka(h:Hq q->p:=by intro h0';rw[hl2,hb2];refine Qi 13 rfl Q5 Qoi mc5 ?_;refine Qi 14 rfl Q5 Qoi zF ?_;exact h0'.o):p:=h ⟨hq⟩
theorem Qmy(h:Hq q->p:=by intro h0';rw[hl1,hb1];refine Qi 11 rfl Q5 QjV mc5 ?_;refine Qi 12 rfl Q5 QjV zF ?_;exact h0'.o):p:=h ⟨hq⟩
theorem Qec(h:Hq q->p:=by intro h0';refine yW 0 ?_;refine yl<|yn<|yq<|yr<|yo (zD 0) ?_;exact h0'.o):p:=h ⟨hq⟩
theorem Qex(h:Hq q->p:=by intro h0';refine Q87 0 (n:=2) (s:=1) rfl rfl Q1 ?_;exact h0'.o):p:=h ⟨hq⟩
end
end
end Go.Proofs.YtphkhfdmlcnoeaaGreatDoor
