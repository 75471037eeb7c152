/-
  Own work: texts of marks, by the program: suffixes, integers, scaled digits, lengths.
-/
import Derived.Test.YtcjphdmkgmkabaaGreatDoorLib7
import Derived.Test.YtcjphdmkgmkabaaGreatDoorLib4
import Derived.Test.YtcjphdmkgmkabaaGreatDoorCh1Base
set_option maxHeartbeats 8000000
set_option maxRecDepth 20000
namespace Go.Ab.Ch1
open Go.Ab.aD
variable {M:au} {cap:Option Nat}
theorem HP (hft:M.FT=FT)(s:ae)(b:UInt8)(hl:s.length<1000000):aJ M 227 [.str s,.str [b]] [] ⟨.bool (bH b s),[],[]⟩:=by
 have hn1:([b]:ae).length=1:=rfl;refine bq (by rw[hft];exact HD) (by simp) ?_;rcases List.eq_nil_or_concat s with rfl|⟨t,c,e⟩
 . have h0:([]:ae).length=0:=rfl;unfold rI;simp only[enter];repeat' first|apply Ke|apply aj|apply Kf|apply Kg|apply Ki|(apply KB;rfl)|(apply KJ;rfl;rfl)|(apply Kq;rfl;rfl)|(apply Kd;rfl;rfl)|(apply Kh;rfl;rfl)|(intro _;omega)|intro _
   all_goals try omega
   all_goals exact⟨.inr rfl,rfl,_,rfl,rfl,rfl⟩
 . rw[List.concat_eq_append]at e;subst e;have hcl:(t++[c]).length=t.length+1:=by simp
   have hd:(t++[c]).drop ((((t++[c]).length:Int)-(([b]:ae).length:Int)).toNat)=[c]:=by
    rw[show ((((t++[c]).length:Int)-(([b]:ae).length:Int)).toNat)=t.length by omega];simp
   have he:bH b (t++[c])=decide (c=b):=by simp[bH]
   rw[he];unfold rI;simp only[enter];by_cases hc:c=b
   . subst hc;rw[decide_eq_true rfl];repeat' first|(apply Lm;rfl;rfl;omega;exact hd)|(apply KA;rfl;rfl;intro _;rotate_left;(intro h;exact absurd rfl h))|apply Ke|apply aj|apply Kf|apply Kg|apply Ki|(apply Ky;rfl)|(apply KJ;rfl;rfl)|(apply Kp;rfl;rfl)|(apply KU;rfl;rfl;omega)|(apply Kd;rfl;rfl)|(apply Kh;rfl;rfl)|(intro _;omega)|intro _
     all_goals try omega
     all_goals exact⟨.inr rfl,rfl,_,rfl,rfl,rfl⟩
   . rw[decide_eq_false hc];repeat' first|(apply Lm;rfl;rfl;omega;exact hd)|(apply KA;rfl;rfl;(intro h;exact absurd (List.cons.inj h).1 hc);intro _)|apply Ke|apply aj|apply Kf|apply Kg|apply Ki|(apply Ky;rfl)|(apply KJ;rfl;rfl)|(apply Kp;rfl;rfl)|(apply KU;rfl;rfl;omega)|(apply Kd;rfl;rfl)|(apply Kh;rfl;rfl)|(intro _;omega)|intro _
     all_goals try omega
     all_goals exact⟨.inr rfl,rfl,_,rfl,rfl,rfl⟩
theorem HQ (hft:M.FT=FT)(s:ae)(b:UInt8)(hl:s.length<1000000)(q:∀h,M.ext 227 [.str s,.str [b]] h=some ⟨.bool (bH b s),h,[]⟩):aJ M 186 [.str s,.str [b]] [] ⟨.aq [.str (if bH b s then s.dropLast else s),.bool (bH b s)],[],[]⟩:=by
 have hn1:([b]:ae).length=1:=rfl;refine bq (by rw[hft];exact HC) (by simp) ?_;cases he:bH b s with
 | true=>
  rw[he]at q;have hne:s≠[]:=by rintro rfl;simp[bH]at he
  have hpos:0<s.length:=List.length_pos_iff.2 hne;have hd:s.take (((s.length:Int)-(([b]:ae).length:Int)).toNat)=s.dropLast:=by
   rw[show ((s.length:Int)-(([b]:ae).length:Int)).toNat=s.length-1 by omega,List.dropLast_eq_take]
  unfold rH;simp only[enter];repeat' first|(apply Lj;rfl;rfl;omega;exact hd)|apply Ke|apply aj|apply Kf|apply Kg|apply Ki|apply Kl|(apply Kk;rfl)|(apply KU;rfl;rfl;omega)|(apply Km;rfl;rfl;first|exact q _)|(apply Kd;rfl;rfl)|(apply Kh;rfl;rfl)
  all_goals exact⟨.inr rfl,rfl,_,rfl,rfl,rfl⟩
 | false=>
  rw[he]at q;unfold rH;simp only[enter];repeat' first|apply Ke|apply aj|apply Kf|apply Kg|apply Ki|apply aF|(apply Kj;rfl)|(apply Km;rfl;rfl;first|exact q _)|(apply Kd;rfl;rfl)|(apply Kh;rfl;rfl)
  all_goals exact⟨.inr rfl,rfl,_,rfl,rfl,rfl⟩
theorem HS (hft:M.FT=FT)(s:ae)(b:UInt8)(q:∀h,M.ext 186 [.str s,.str [b]] h=some ⟨.aq [.str (if bH b s then s.dropLast else s),.bool (bH b s)],h,[]⟩):aJ M 120 [.str s,.str [b]] [] ⟨.aq [.str (if bH b s then s.dropLast else s),.bool (bH b s)],[],[]⟩:=by
 refine bq (by rw[hft];exact HB) (by simp) ?_;unfold xp;simp only[enter];repeat' first|apply Ke|apply aj|apply Kf|apply Kg|apply Ki|(apply Km;rfl;rfl;first|exact q _)|(apply Kd;rfl;rfl)|(apply Kh;rfl;rfl)
 all_goals exact⟨.inr rfl,rfl,_,rfl,rfl,rfl⟩
theorem HT (hft:M.FT=FT)(s:ae)(hl:s.length<1000000)(q209:∀h,M.ext 209 [.str s] h=some ⟨.bool (decide (s≠[]) && s.all bk),h,[]⟩)
 (q214:∀h,s≠[]->s.length<=18->s.all bk=true->M.ext 214 [.str s] h=some ⟨.aq [.iV (bG 0 s),.bZ],h,[]⟩):aJ M 187 [.str s] [] ⟨.aq [.iV (bw s),.bool (decide (0<=bB s))],[],[]⟩:=by
 refine bq (by rw[hft];exact HH) (by simp) ?_;unfold xw;simp only[enter];by_cases hE:s≠[]/\s.length<=9/\s.all bk=true
 . have e:bB s=(bG 0 s:Nat):=if_pos hE;have h0:(0:Int)<=(bG 0 s:Nat):=by omega
   have q214:=fun h=>q214 h hE.1 (by omega) hE.2.2
   have hl9:=hE.2.1;rw[decide_eq_true hE.1,hE.2.2]at q209;rw[bw,e,if_pos h0,decide_eq_true h0];repeat' first|apply Ke|apply aj|apply Kf|apply Kg|apply Ki|apply Kl|(apply KV;rfl)|(apply Kk;rfl)|(apply Kv;rfl)|(apply Ku;rfl;rfl)|(apply Kq;rfl;rfl)|(apply Km;rfl;rfl;first|exact q209 _|exact q214 _)|(apply Kd;rfl;rfl)|(apply Kh;rfl;rfl)|(intro _;omega)|intro _
   all_goals try omega
   all_goals exact⟨.inr rfl,rfl,_,rfl,rfl,rfl⟩
 . have e:bB s = -1:=if_neg hE;rw[bw,e,if_neg (by decide),decide_eq_false (by decide)];cases hb:(decide (s≠[]) && s.all bk) with
   | false=>
    rw[hb]at q209;repeat' first|apply Ke|apply aj|apply Kf|apply Kg|apply Ki|apply aF|(apply Kj;rfl)|(apply KD;rfl)|(apply Kp;rfl;rfl)|(apply Km;rfl;rfl;first|exact q209 _)|(apply Kd;rfl;rfl)|(apply Kh;rfl;rfl)
    all_goals try omega
    all_goals exact⟨.inr rfl,rfl,_,rfl,rfl,rfl⟩
   | true=>
    rw[hb]at q209;rw[Bool.and_eq_true]at hb;have h9:9<s.length:=by
     have:=of_decide_eq_true hb.1;apply Nat.lt_of_not_le;exact fun h=>hE ⟨this,h,hb.2⟩
    repeat' first|apply Ke|apply aj|apply Kf|apply Kg|apply Ki|apply aF|(apply Kj;rfl)|(apply Kv;rfl)|(apply Ku;rfl;rfl)|(apply Kq;rfl;rfl)|(apply Km;rfl;rfl;first|exact q209 _)|(apply Kd;rfl;rfl)|(apply Kh;rfl;rfl)|(intro _;omega)|intro _
    all_goals try omega
    all_goals exact⟨.inr rfl,rfl,_,rfl,rfl,rfl⟩
theorem HU (hft:M.FT=FT)(s:ae)(q187:∀h,M.ext 187 [.str s] h=some ⟨.aq [.iV (bw s),.bool (decide (0<=bB s))],h,[]⟩)
 (q164:∀h,M.ext 164 [.str s] h=some ⟨.bool (gM s),h,[]⟩):aJ M 121 [.str s] [] ⟨.aq [.iV (bw s),.bool (decide (0<=bE s))],[],[]⟩:=by
 refine bq (by rw[hft];exact HE) (by simp) ?_;unfold xq;simp only[enter];rw[Hx];cases hb:decide (0<=bB s) with
 | false=>
  rw[hb]at q187;repeat' first|apply Ke|apply aj|apply Kf|apply Kg|apply Ki|(apply KB;rfl)|(apply Kq;rfl;rfl)|(apply Km;rfl;rfl;first|exact q187 _)|(apply Kd;rfl;rfl)|(apply Kh;rfl;rfl)
  all_goals exact⟨.inr rfl,rfl,_,rfl,rfl,rfl⟩
 | true=>
  rw[hb]at q187;rw[Bool.true_and];repeat' first|apply Ke|apply aj|apply Kf|apply Kg|apply Ki|(apply Ky;rfl)|(apply Kp;rfl;rfl)|(apply Km;rfl;rfl;first|exact q187 _|exact q164 _)|(apply Kd;rfl;rfl)|(apply Kh;rfl;rfl)
  all_goals exact⟨.inr rfl,rfl,_,rfl,rfl,rfl⟩
theorem HV (hft:M.FT=FT)(s:ae)(hl:s.length<1000000)(lo hi:Nat)(hh:lo<=4/\hi<=4)(q187:∀h,M.ext 187 [.str s] h=some ⟨.aq [.iV (bw s),.bool (decide (0<=bB s))],h,[]⟩)
 (q95:∀h,M.ext 95 [.iV s.length,.iV lo,.iV hi] h=some ⟨.bool (decide ((s.length:Int)<lo) || decide ((hi:Int)<s.length)),h,[]⟩) :
 aJ M 188 [.str s,.iV lo,.iV hi] [] ⟨.aq [.iV (eB s hi),.bool (decide (0<=bV s lo hi))],[],[]⟩:=by
 refine bq (by rw[hft];exact HI) (by simp) ?_;unfold xy;simp only[enter];have hN:=rD s;have e1:(decide ((s.length:Int)<lo) || decide ((hi:Int)<s.length))=(decide (s.length<lo) || decide (hi<s.length)):=by
  simp only[Int.ofNat_lt]
 rw[e1]at q95;rw[rF];obtain⟨D,hD⟩:∃D,D=decide (0<=bB s):=⟨_,rfl⟩;obtain⟨B,hB⟩:∃B,B=(decide (s.length<lo) || decide (hi<s.length)):=⟨_,rfl⟩;rw[←hD]at q187 ⊢;rw[←hB]at q95 ⊢;repeat' first|apply Ke|apply aj|apply Kf|apply Kg|apply Kn|(apply Km;rfl;rfl;first|exact q187 _)|(apply Kd;rfl;rfl)|(apply Kh;rfl;rfl)
 rw[show IntKind.i64.wrap ((hi:Int)-(s.length:Int))=(hi:Int)-(s.length:Int) from iP (by omega)];refine W.CD (hi-s.length) (fun i st=>∃lo' wr,st=⟨⟨[.str s,.iV lo,.iV hi,.iV 0,.bool false,.iV (bw s*10^i),.bool D,.iV ((hi:Int)-(s.length:Int)),.iV i],lo',[],[]⟩,wr⟩) (fun i st hi' ⟨lo',wr,hst⟩=>?_) (fun st ⟨lo',wr,hst⟩=>?_) (Nat.zero_le _) ⟨_,_,by rw[Int.pow_zero,Int.mul_one];rfl⟩
 . subst hst;have h1:(10:Int)^i<=10^4:=qD (by decide) (by omega);have h2:(0:Int)<=10^i:=Int.pow_nonneg (by decide);have e4:(10:Int)^4=10000:=rfl;have h3:0<=bw s*10^i:=Int.mul_nonneg hN.1 h2;have h4:bw s*10^i<=bw s*10^4:=Int.mul_le_mul_of_nonneg_left h1 hN.1;have h5:bw s*10^i*10=bw s*10^(i+1):=by rw[Int.pow_succ,Int.mul_assoc]
   have b5 : -9223372036854775808<=bw s*10^i*10/\bw s*10^i*10<9223372036854775808:=by omega
   unfold rJ;repeat' first|(apply Ll;rfl;rfl;exact b5)|apply Ke|apply aj|apply Kf|apply Kg|apply Kn|apply Kl|apply bn|(apply Kj;rfl)|(apply Kz;rfl;rfl)|(apply KC;rfl;rfl;omega)|(apply Kd;rfl;rfl)|(apply Kh;rfl;rfl)|(intro _;omega)|intro _
   all_goals try omega
   refine uy ?_;rw[h5];exact⟨_,_,rfl⟩
 . subst hst;have e:bw s*10^(hi-s.length)=eB s hi:=rfl;rw[e];unfold rJ;cases D with
   | false=>
    repeat' first|apply Ke|apply aj|apply Kf|apply Kg|apply Ki|apply Kx|apply bX|apply cg|apply cU|(apply Kk;rfl)|(apply KB;rfl)|(apply Kz;rfl;rfl)|(apply Kq;rfl;rfl)|(apply Kd;rfl;rfl)|(apply Kh;rfl;rfl)|(intro _;omega)|intro _
    all_goals try omega
    all_goals exact⟨.inr rfl,rfl,_,rfl,rfl,rfl⟩
   | true=>
    cases B with
    | false=>
     repeat' first|apply Ke|apply aj|apply Kf|apply Kg|apply Ki|apply Kx|apply bX|apply cg|apply cU|(apply Kk;rfl)|(apply Ky;rfl)|(apply Kz;rfl;rfl)|(apply Kp;rfl;rfl)|(apply Km;rfl;rfl;first|exact q95 _)|(apply Kd;rfl;rfl)|(apply Kh;rfl;rfl)|(intro _;omega)|intro _
     all_goals try omega
     all_goals exact⟨.inr rfl,rfl,_,rfl,rfl,rfl⟩
    | true=>
     repeat' first|apply Ke|apply aj|apply Kf|apply Kg|apply Ki|apply Kx|apply bX|apply cg|apply cU|(apply Kk;rfl)|(apply Ky;rfl)|(apply Kz;rfl;rfl)|(apply Kp;rfl;rfl)|(apply Km;rfl;rfl;first|exact q95 _)|(apply Kd;rfl;rfl)|(apply Kh;rfl;rfl)|(intro _;omega)|intro _
     all_goals try omega
     all_goals exact⟨.inr rfl,rfl,_,rfl,rfl,rfl⟩
theorem HW (hft:M.FT=FT)(k:ae)(v:Int)(r:ae)(q36:∀h,M.ext 36 [dx k v r] h=some ⟨.iV (bx k v r),h,[]⟩):aJ M 122 [dx k v r] [] ⟨(dy k v r).av,[],[]⟩:=by
 refine bq (by rw[hft];exact HF) (by simp) ?_;unfold xr;simp only[enter];by_cases he:bx k v r=0
 . rw[he]at q36;have e:dy k v r=⟨k,v,r,0⟩:=if_neg (fun h=>h he);rw[e];repeat' first|apply Ke|apply aj|apply Kf|apply Kg|apply Ki|apply Kl|(apply Kk;rfl)|(apply Kw;rfl;rfl)|(apply Km;rfl;rfl;first|exact q36 _)|(apply Kr;rfl;rfl;rfl)|(apply Ko;rfl;rfl;rfl)|(apply Kt;rfl;rfl;rfl)|(apply Kd;rfl;rfl)|(apply Kh;rfl;rfl)|(intro _;omega)|intro _
   all_goals try omega
   all_goals exact⟨.inr rfl,rfl,_,rfl,rfl,rfl⟩
 . have e:dy k v r=dN (bx k v r):=if_pos he;rw[e];repeat' first|apply Ke|apply aj|apply Kf|apply Kg|apply Ki|apply aF|(apply Kj;rfl)|(apply Kw;rfl;rfl)|(apply Km;rfl;rfl;first|exact q36 _)|(apply Kr;rfl;rfl;rfl)|(apply Ko;rfl;rfl;rfl)|(apply Kt;rfl;rfl;rfl)|(apply Kd;rfl;rfl)|(apply Kh;rfl;rfl)|(intro _;omega)|intro _
   all_goals first|(omega)|contradiction|skip
   all_goals exact⟨.inr rfl,rfl,_,rfl,rfl,rfl⟩
theorem xF {b:UInt8}(s:ae):(aN b s).1.length<=s.length/\((aN b s).2.getD []).length<=s.length:=by
 cases h:(aN b s).2 with
 | none=>rw[(ka h).1];exact⟨Nat.le_refl _,Nat.zero_le _⟩
 | some y=>
  have:=rh h;show _/\y.length<=_;omega
structure CL (M:au):Prop where
 ft:M.FT=FT
 jl:∀k v r h,M.ext 36 [dx k v r] h=some ⟨.iV (bx k v r),h,[]⟩
 lF:∀(s:ae) b h,s.length<1000000->M.ext 163 [.str s,.str [b]] h=some ⟨eW b s,h,[]⟩
 ix:∀(s:ae) h,s.length<1000000->M.ext 121 [.str s] h=some ⟨.aq [.iV (bw s),.bool (decide (0<=bE s))],h,[]⟩
 lG:∀(s:ae) (lo hi:Nat) h,s.length<1000000->lo<=4->hi<=4->M.ext 188 [.str s,.iV lo,.iV hi] h=some ⟨.aq [.iV (eB s hi),.bool (decide (0<=bV s lo hi))],h,[]⟩
 lH:∀k v r h,M.ext 122 [dx k v r] h=some ⟨(dy k v r).av,h,[]⟩
theorem HX (C:CL M)(s:ae)(hl:s.length<1000000):aJ M 123 [.str s] [] ⟨(ke s).av,[],[]⟩:=by
 refine bq (by rw[C.ft];exact HG) (by simp) ?_;have hs:=xF (b:=46) s;have q163:=fun h=>C.lF s 46 h hl
 unfold eW at q163;have q121:=fun h=>C.ix (aN 46 s).1 h (by omega)
 have q188:=fun h=>C.lG ((aN 46 s).2.getD []) 2 3 h (by omega) (by decide) (by decide)
 rw[show ((2:Nat):Int)=2 from rfl,show ((3:Nat):Int)=3 from rfl]at q188;unfold ke;unfold xu;simp only[enter];cases hy:(aN 46 s).2 with
 | none=>
  rw[hy]at q163 q188;show W _ _ _ (fun x s=>_/\_/\∃vs,_/\dh vs=(dN 25).av/\_);have q188:∀h,M.ext 188 [.str [],.iV 2,.iV 3] h=some ⟨.aq [.iV (eB [] 3),.bool (decide (0<=bV [] 2 3))],h,[]⟩:=q188;cases hD:decide (0<=bE (aN 46 s).1) with
  | false=>
   rw[hD]at q121;repeat' first|apply Ke|apply aj|apply Kf|apply Kg|apply Ki|apply aF|(apply Kj;rfl)|(apply KD;rfl)|(apply Kp;rfl;rfl)|(apply Km;rfl;rfl;first|exact q163 _|exact q121 _|exact q188 _)|(apply Ko;rfl;rfl;rfl)|(apply Kt;rfl;rfl;rfl)|(apply Kd;rfl;rfl)|(apply Kh;rfl;rfl)
   all_goals exact⟨.inr rfl,rfl,_,rfl,rfl,rfl⟩
  | true=>
   rw[hD]at q121;repeat' first|apply Ke|apply aj|apply Kf|apply Kg|apply Ki|apply aF|(apply Kj;rfl)|(apply KD;rfl)|(apply Kp;rfl;rfl)|(apply Km;rfl;rfl;first|exact q163 _|exact q121 _|exact q188 _)|(apply Ko;rfl;rfl;rfl)|(apply Kt;rfl;rfl;rfl)|(apply Kd;rfl;rfl)|(apply Kh;rfl;rfl)
   all_goals exact⟨.inr rfl,rfl,_,rfl,rfl,rfl⟩
 | some b=>
  rw[hy]at q163 q188;show W _ _ _ (fun x s'=>_/\_/\∃vs,_/\dh vs=(if bE (aN 46 s).1<0\/bV b 2 3<0 then dN 25 else dy eL (1000*bE (aN 46 s).1+bV b 2 3) []).av/\_);have q188:∀h,M.ext 188 [.str b,.iV 2,.iV 3] h=some ⟨.aq [.iV (eB b 3),.bool (decide (0<=bV b 2 3))],h,[]⟩:=q188;by_cases h1:0<=bE (aN 46 s).1
  . rw[decide_eq_true h1,rE h1]at q121;by_cases h2:0<=bV b 2 3
    . rw[decide_eq_true h2,←rG h2]at q188;rw[if_neg (by omega)];have l1:=xk (aN 46 s).1;have l2:=xl b (hi:=3) (by decide);rw[←rG h2]at l2;have q122:=C.lH eL (1000*bE (aN 46 s).1+bV b 2 3) [];unfold PR.av at q122 ⊢;generalize bE (aN 46 s).1=x at *
      generalize bV b 2 3=y at *
      repeat' first|apply Ke|apply aj|apply Kf|apply Kg|apply Ki|apply Kl|(apply Kk;rfl)|(apply Kv;rfl)|(apply Kq;rfl;rfl)|(apply KC;rfl;rfl;omega)|(apply Ll;rfl;rfl;omega)|(apply Km;rfl;rfl;first|exact q163 _|exact q121 _|exact q188 _|exact q122 _)|(apply Ko;rfl;rfl;rfl)|(apply Kt;rfl;rfl;rfl)|(apply Kd;rfl;rfl)|(apply Kh;rfl;rfl)
      all_goals try omega
      all_goals exact⟨.inr rfl,rfl,_,rfl,rfl,rfl⟩
    . rw[decide_eq_false h2]at q188;rw[if_pos (by omega)];repeat' first|apply Ke|apply aj|apply Kf|apply Kg|apply Ki|apply aF|(apply Kj;rfl)|(apply Kv;rfl)|(apply Kq;rfl;rfl)|(apply Km;rfl;rfl;first|exact q163 _|exact q121 _|exact q188 _)|(apply Ko;rfl;rfl;rfl)|(apply Kt;rfl;rfl;rfl)|(apply Kd;rfl;rfl)|(apply Kh;rfl;rfl)
      all_goals exact⟨.inr rfl,rfl,_,rfl,rfl,rfl⟩
  . rw[decide_eq_false h1]at q121;rw[if_pos (by omega)];cases hD:decide (0<=bV b 2 3) with
    | false=>
     rw[hD]at q188;repeat' first|apply Ke|apply aj|apply Kf|apply Kg|apply Ki|apply aF|(apply Kj;rfl)|(apply Kv;rfl)|(apply KD;rfl)|(apply Kp;rfl;rfl)|(apply Kq;rfl;rfl)|(apply Km;rfl;rfl;first|exact q163 _|exact q121 _|exact q188 _)|(apply Ko;rfl;rfl;rfl)|(apply Kt;rfl;rfl;rfl)|(apply Kd;rfl;rfl)|(apply Kh;rfl;rfl)
     all_goals exact⟨.inr rfl,rfl,_,rfl,rfl,rfl⟩
    | true=>
     rw[hD]at q188;repeat' first|apply Ke|apply aj|apply Kf|apply Kg|apply Ki|apply aF|(apply Kj;rfl)|(apply Kv;rfl)|(apply KD;rfl)|(apply Kp;rfl;rfl)|(apply Kq;rfl;rfl)|(apply Km;rfl;rfl;first|exact q163 _|exact q121 _|exact q188 _)|(apply Ko;rfl;rfl;rfl)|(apply Kt;rfl;rfl;rfl)|(apply Kd;rfl;rfl)|(apply Kh;rfl;rfl)
     all_goals exact⟨.inr rfl,rfl,_,rfl,rfl,rfl⟩
theorem Mb {t:Nat}{x y:an}{l:List aw}{pe:List AV}{lo:List (Nat×AV)}{hp:ab}{df wr:List Nat}{k:IntKind}{a b:Int}{Q:ah->Prop}{m:Int}(hx:(St.mk pe lo hp df).aa x=some (.int k a))(hy:(St.mk pe lo hp df).aa y=some (.int k b))(hm:m=a/\b<=a\/m=b/\a<=b)
 (h:WO M l ⟨⟨pe,(t,.int k m)::lo,hp,df⟩,wr⟩ Q):WO M (⟨.l t,.mm true [x,y],none⟩::l) ⟨⟨pe,lo,hp,df⟩,wr⟩ Q:=by
 refine Kd (v:=.int k m) ?_ rfl h;simp only[aC,St.bp,hx,hy];have e:(if a<b then b else a)=m:=by split <;> omega
 simp[iB,e]
theorem HZ (hft:M.FT=FT)(n L:Nat)(hL:0<L/\L<=4)(hn:n<10^L)(q183:∀h,M.ext 183 [.iV n] h=some ⟨.str (aH n),h,[]⟩)
 (q264:∀k h,k<=64->M.ext 264 [.str [48],.iV (k:Nat)] h=some ⟨.str (List.replicate k 48),h,[]⟩):aJ M 225 [.iV n,.iV L] [] ⟨.str (bg L n),[],[]⟩:=by
 refine bq (by rw[hft];exact HJ) (by simp) ?_;have hlen:=eJ hn hL.1;have e:=Hy hn hL.1;have q264:=fun h=>q264 (L-(aH n).length) h (by omega)
 have hm:(((L-(aH n).length:Nat):Int)=(0:Int)/\(L:Int)-((aH n).length:Int)<=(0:Int))\/(((L-(aH n).length:Nat):Int)=(L:Int)-((aH n).length:Int)/\(0:Int)<=(L:Int)-((aH n).length:Int)):=by omega
 rw[←e];have hr:(List.replicate (L-(aH n).length) (48:UInt8)).length=L-(aH n).length:=List.length_replicate;unfold xz;simp only[enter];repeat' first|(apply Mb (m:=((L-(aH n).length:Nat):Int));rfl;rfl;exact hm)|apply Ke|apply aj|apply Kf|apply Kg|apply Ki|(apply KU;rfl;rfl;omega)|(apply Li;rfl;rfl;first|omega|(simp only[List.length_append,List.length_cons,List.length_nil];omega)|(simp;omega))|(apply Km;rfl;rfl;first|exact q183 _|exact q264 _)|(apply Kd;rfl;rfl)|(apply Kh;rfl;rfl)
 all_goals exact⟨.inr rfl,rfl,_,rfl,rfl,rfl⟩
theorem Ia (hft:M.FT=FT)(n:Nat)(hn:n<1000000000)(q183:∀h,M.ext 183 [.iV n] h=some ⟨.str (aH n),h,[]⟩):aJ M 182 [.iV n] [] ⟨.str (gO n),[],[]⟩:=by
 refine bq (by rw[hft];exact HM) (by simp) ?_;have hlen:=eJ (k:=9) hn (by decide);unfold xC gO;simp only[enter];repeat' first|apply Ke|apply aj|apply Kf|apply Kg|apply Ki|(apply Li;rfl;rfl;first|omega|(simp only[List.length_cons,List.length_nil];omega)|(simp;omega))|(apply Km;rfl;rfl;first|exact q183 _)|(apply Kd;rfl;rfl)|(apply Kh;rfl;rfl)
 all_goals exact⟨.inr rfl,rfl,_,rfl,rfl,rfl⟩
structure rK (M:au):Prop where
 ft:M.FT=FT
 lI:∀(m:Nat) h,m<1000000000->M.ext 183 [.iV m] h=some ⟨.str (aH m),h,[]⟩
 jm:∀(m L:Nat) h,0<L/\L<=4->m<10^L->M.ext 225 [.iV m,.iV L] h=some ⟨.str (bg L m),h,[]⟩
theorem Ib (C:rK M)(n:Nat)(hn:n<=863999999):aJ M 180 [.iV n] [] ⟨.str (gu n),[],[]⟩:=by
 refine bq (by rw[C.ft];exact HK) (by simp) ?_;have a1:=fun h=>C.lI (n/10000/3600) h (by omega)
 have a2:=fun h=>C.lI (n/10000/60) h (by omega)
 have a3:=fun h=>C.lI (n/10000) h (by omega)
 have p1:=fun h=>C.jm (n/10000/60%60) 2 h (by decide) (by omega)
 have p2:=fun h=>C.jm (n/10000%60) 2 h (by decide) (by omega)
 have p3:=fun h=>C.jm (n%10000/100) 2 h (by decide) (by omega)
 have p4:=fun h=>C.jm (n%10000) 4 h (by decide) (by omega)
 have l1:=eJ (n:=n/10000/3600) (k:=9) (by omega) (by decide);have l2:=eJ (n:=n/10000/60) (k:=9) (by omega) (by decide);have l3:=eJ (n:=n/10000) (k:=9) (by omega) (by decide);unfold xA;simp only[enter];repeat' first|(apply Li;rfl;rfl;(simp only[List.length_append,List.length_cons,List.length_nil,cj];omega))|apply Ke|apply aj|apply Kf|apply Kg|apply Kn|apply Ki|apply Kl|apply aF|apply bn|(apply Kj;rfl)|(apply Kk;rfl)|(apply Ku;rfl;rfl)|(apply Ks;rfl;rfl)|(apply Lk;rfl;rfl;omega;intro _ _)|(apply LB;rfl;rfl;omega;omega;intro _ _)|(apply Km;rfl;rfl;first|exact a1 _|exact a2 _|exact a3 _|exact p1 _|exact p2 _|exact p3 _|exact p4 _)|(apply Kd;rfl;rfl)|(apply Kh;rfl;rfl)|(intro _;omega)|intro _
 all_goals try omega
 all_goals refine⟨.inr rfl,rfl,_,rfl,congrArg AV.str ?_,rfl⟩
 all_goals unfold gu
 all_goals first|rw[if_pos (show 3600<=n/10000 by omega)]|rw[if_neg (show ¬3600<=n/10000 by omega)]
 all_goals first|rw[if_pos (show 60<=n/10000 by omega)]|rw[if_neg (show ¬60<=n/10000 by omega)]|skip
 all_goals first|rw[if_pos (show n%100=0 by omega)]|rw[if_neg (show ¬n%100=0 by omega)]
theorem Ic (C:rK M)(n:Nat)(hn:n<=999999):aJ M 181 [.iV n] [] ⟨.str (gN n),[],[]⟩:=by
 refine bq (by rw[C.ft];exact HL) (by simp) ?_;have a1:=fun h=>C.lI (n/1000) h (by omega)
 have p1:=fun h=>C.jm (n%1000/10) 2 h (by decide) (by omega)
 have p2:=fun h=>C.jm (n%1000) 3 h (by decide) (by omega)
 have l1:=eJ (n:=n/1000) (k:=9) (by omega) (by decide);unfold xB;simp only[enter];repeat' first|(apply Li;rfl;rfl;(simp only[List.length_append,List.length_cons,List.length_nil,cj];omega))|apply Ke|apply aj|apply Kf|apply Kg|apply Ki|apply Kl|apply aF|(apply Kj;rfl)|(apply Kk;rfl)|(apply Ks;rfl;rfl)|(apply Lk;rfl;rfl;omega;intro _ _)|(apply LB;rfl;rfl;omega;omega;intro _ _)|(apply Km;rfl;rfl;first|exact a1 _|exact p1 _|exact p2 _)|(apply Kd;rfl;rfl)|(apply Kh;rfl;rfl)|(intro _;omega)|intro _
 all_goals try omega
 all_goals refine⟨.inr rfl,rfl,_,rfl,congrArg AV.str ?_,rfl⟩
 all_goals unfold gN
 all_goals first|rw[if_pos (show n%10=0 by omega)]|rw[if_neg (show ¬n%10=0 by omega)]
structure xG (M:au):Prop where
 ft:M.FT=FT
 jl:∀k v r h,M.ext 36 [dx k v r] h=some ⟨.iV (bx k v r),h,[]⟩
 xH:∀h:ab,M.ext 113 [] h=some ⟨.map h.length,h++(ru h.length).map some,[]⟩
 xI:∀(n:Nat) h,n<=863999999->M.ext 180 [.iV n] h=some ⟨.str (gu n),h,[]⟩
 xJ:∀(n:Nat) h,n<=999999->M.ext 181 [.iV n] h=some ⟨.str (gN n),h,[]⟩
 xK:∀(n:Nat) h,n<1000000000->M.ext 182 [.iV n] h=some ⟨.str (gO n),h,[]⟩
def fJ (k:ae)(v:Int)(r:ae):AV:=if bx k v r≠0 then .aq [.str [],.iV (bx k v r)] else .aq [.str (cF k v r),.iV 0]
theorem Ie (C:xG M)(k:ae)(v:Int)(r:ae):aJ M 44 [dx k v r] [] ⟨fJ k v r,[],[]⟩:=by
 refine bq (by rw[C.ft];exact HN) (by simp) ?_;have q36:=fun h=>C.jl k v r h
 have q113:=C.xH;unfold xD;simp only[enter];by_cases he:bx k v r=0
 . rw[he]at q36;rw[fJ,if_neg (fun h=>h he)];rcases rv he with ⟨rfl,hr,rfl⟩|⟨hk,hk2,rfl,hl,hm⟩
   . repeat' first|apply Ke|apply aj|apply Kf|apply Kg|apply Ki|apply Kl|apply aF|(apply Kj;rfl)|(apply Kk;rfl)|(apply Kw;rfl;rfl)|(apply Km;rfl;rfl;first|exact q36 _)|(apply KA;rfl;rfl;all_goals first|(intro h;exact absurd h (by decide))|(intro h;exact absurd rfl h)|(intro h;contradiction)|intro _)|(apply Kr;rfl;rfl;rfl)|(apply Ko;rfl;rfl;rfl)|(apply Kd;rfl;rfl)|(apply Kh;rfl;rfl)|(intro _;omega)|intro _
     all_goals try omega
     all_goals exact⟨.inr rfl,rfl,_,rfl,rfl,rfl⟩
   . rcases hk2 with rfl|rfl|rfl;all_goals simp only[eY,eZ]at hl hm
     all_goals simp(decide:=true) at hl hm
     all_goals obtain⟨n,rfl⟩:∃n:Nat,v=(n:Int):=⟨v.toNat,by omega⟩
     . have q:=fun h=>C.xI n h (by omega)
       repeat' first|(apply KT;rfl;rfl;(first|(simp only[nca];rfl)|rfl);exact q113 _)|(apply KL;rfl;rfl;(first|(simp only[nca];rfl)|rfl);first|exact q _)|apply Ke|apply aj|apply Kf|apply Kg|apply Ki|apply Kl|apply KE|apply KH|(apply KI;rfl)|(apply KK;rfl;rfl;(first|(simp only[nca];rfl)|rfl))|(apply Lg;rfl;rfl)|(apply Kk;rfl)|(apply Kw;rfl;rfl)|(apply Km;rfl;rfl;first|exact q36 _)|(apply KA;rfl;rfl;all_goals first|(intro h;exact absurd h (by decide))|(intro h;exact absurd rfl h)|(intro h;contradiction)|intro _)|(apply Kr;rfl;rfl;rfl)|(apply Ko;rfl;rfl;rfl)|(apply Kd;rfl;rfl)|(apply Kh;rfl;rfl)|(intro _;omega)|intro _
       all_goals try omega
       all_goals exact⟨.inr rfl,rfl,_,rfl,rfl,rfl⟩
     . have q:=fun h=>C.xJ n h (by omega)
       repeat' first|(apply KT;rfl;rfl;(first|(simp only[nca];rfl)|rfl);exact q113 _)|(apply KL;rfl;rfl;(first|(simp only[nca];rfl)|rfl);first|exact q _)|apply Ke|apply aj|apply Kf|apply Kg|apply Ki|apply Kl|apply KE|apply KH|(apply KI;rfl)|(apply KK;rfl;rfl;(first|(simp only[nca];rfl)|rfl))|(apply Lg;rfl;rfl)|(apply Kk;rfl)|(apply Kw;rfl;rfl)|(apply Km;rfl;rfl;first|exact q36 _)|(apply KA;rfl;rfl;all_goals first|(intro h;exact absurd h (by decide))|(intro h;exact absurd rfl h)|(intro h;contradiction)|intro _)|(apply Kr;rfl;rfl;rfl)|(apply Ko;rfl;rfl;rfl)|(apply Kd;rfl;rfl)|(apply Kh;rfl;rfl)|(intro _;omega)|intro _
       all_goals try omega
       all_goals exact⟨.inr rfl,rfl,_,rfl,rfl,rfl⟩
     . have q:=fun h=>C.xK n h (by omega)
       repeat' first|(apply KT;rfl;rfl;(first|(simp only[nca];rfl)|rfl);exact q113 _)|(apply KL;rfl;rfl;(first|(simp only[nca];rfl)|rfl);first|exact q _)|apply Ke|apply aj|apply Kf|apply Kg|apply Ki|apply Kl|apply KE|apply KH|(apply KI;rfl)|(apply KK;rfl;rfl;(first|(simp only[nca];rfl)|rfl))|(apply Lg;rfl;rfl)|(apply Kk;rfl)|(apply Kw;rfl;rfl)|(apply Km;rfl;rfl;first|exact q36 _)|(apply KA;rfl;rfl;all_goals first|(intro h;exact absurd h (by decide))|(intro h;exact absurd rfl h)|(intro h;contradiction)|intro _)|(apply Kr;rfl;rfl;rfl)|(apply Ko;rfl;rfl;rfl)|(apply Kd;rfl;rfl)|(apply Kh;rfl;rfl)|(intro _;omega)|intro _
       all_goals try omega
       all_goals exact⟨.inr rfl,rfl,_,rfl,rfl,rfl⟩
 . rw[fJ,if_pos he];repeat' first|apply Ke|apply aj|apply Kf|apply Kg|apply Ki|apply aF|(apply Kj;rfl)|(apply Kw;rfl;rfl)|(apply Km;rfl;rfl;first|exact q36 _)|(apply Kr;rfl;rfl;rfl)|(apply Ko;rfl;rfl;rfl)|(apply Kd;rfl;rfl)|(apply Kh;rfl;rfl)|(intro _;omega)|intro _
   all_goals first|(omega)|contradiction|skip
   all_goals exact⟨.inr rfl,rfl,_,rfl,rfl,rfl⟩
structure dC where
 n:Int
 cG:Bool
 dp:Bool
 unit:Int
 count:Int
def stepT (t:dC)(x:Int)(right:Bool):dC:=
 ⟨IntKind.i64.wrap (t.n+IntKind.i64.wrap (min x 99*t.unit)),t.cG && right,t.dp || (if t.count<2 then decide (59<x) else if t.count=2 then decide (99<x) else false),IntKind.i64.wrap (t.unit*60),t.count+1⟩
def bR (L i:Nat)(w:ae):Bool:=decide (0<=bL i w) && decide (L<=3)
def fK (l:List ae):Nat->dC->dC
 | 0,t=>t
 | j+1,t=>fK l j (stepT t (bw l[j]!) (bR l.length j l[j]!))
def eO (found:Bool)(t:dC):PR:=
 if cM [if !found || !t.cG then 25 else 0,if t.dp then 3 else 0,bx bm t.n []]≠0 then dN (cM [if !found || !t.cG then 25 else 0,if t.dp then 3 else 0,bx bm t.n []]) else ⟨bm,t.n,[],0⟩
def kg (back:ae):dC:=⟨eB back 4,decide (0<=bV back 1 4),false,10000,0⟩
def nV (s:ae):PR:=eO (aN 46 s).2.isSome (fK (aU 58 (aN 46 s).1) (aU 58 (aN 46 s).1).length (kg ((aN 46 s).2.getD [])))
theorem rL (l:List ae):∀(j:Nat) (t:dC),t.cG=false->(fK l j t).cG=false
 | 0,_,h=>h
 | j+1,t,h=>rL l j _ (by show (t.cG && _)=false;rw[h];rfl)
theorem kh {found:Bool}{t:dC}(h:found=false\/t.cG=false):eO found t=dN 25:=by
 have:(!found || !t.cG)=true:=by
  rcases h with h|h <;> rw[h] <;> simp
 unfold eO;rw[this];rfl
theorem eQ {x:Int}(h : -9223372036854775808<=x/\x<9223372036854775808):IntKind.i64.wrap x=x:=iP h
theorem Ig {w:ae}(h:w.length=2):bB w<100:=by
 rcases nT w with e|⟨e,_,_,_,hd⟩
 . omega
 . have:=qI w hd;rw[h]at this;rw[e];omega
theorem ki {i:Nat}{w:ae}(h:0<=bL i w):bw w=bL i w/\bL i w<1000000000/\(0<i->bL i w<100):=by
 unfold bL at *
 by_cases h0:i=0
 . rw[if_pos h0]at *
   exact⟨rE h,(xk w).2,fun h=>by omega⟩
 . rw[if_neg h0]at *
   by_cases h2:w.length=2
   . rw[if_pos h2]at *
     exact⟨by rw[bw,if_pos h],(rB w).2,fun _=>Ig h2⟩
   . rw[if_neg h2]at h;omega
theorem lJ (v:Int):bx bm v []=if v<1\/863999999<v then 3 else 0:=rfl
theorem rM {t:dC}(h:t.cG=true):eO true t=if t.dp then dN 3 else dy bm t.n []:=by
 unfold eO dy;rw[h];cases t.dp with
 | true=>rfl
 | false=>
  rw[lJ];by_cases hv:t.n<1\/863999999<t.n
  . simp[cM,hv]
  . simp[cM,hv]
theorem Ih {v:Int}(h:863999999<v):dy bm v []=dN 3:=by
 have:bx bm v []=3:=by rw[lJ,if_pos (.inr h)]
 unfold dy;rw[this];rfl
theorem kj {x:Int}(h:x<=99):min x 99=x:=by omega
theorem Ii (l:List ae)(hl:l≠[])(back:ae):eO true (fK l l.length (kg back))=fb l (bV back 1 4):=by
 by_cases hs:0<=bV back 1 4
 . by_cases h3:l.length<=3
   . have hn:=xl back (hi:=4) (by decide);have e:=rG hs;rw[fb,if_neg (by omega)];have es:kg back=⟨bV back 1 4,true,false,10000,0⟩:=by unfold kg;rw[←e,decide_eq_true hs]
     have hlt:bV back 1 4<10000:=by
      rcases nT back with e1|⟨e1,_,_,_,hd⟩
      . unfold bV at hs;rw[e1]at hs;simp at hs
      . have h1:=rF back 1 4;rw[decide_eq_true hs,eq_comm,Bool.and_eq_true]at h1;have h2:back.length<=4:=by
         have:=h1.2;simp at this;omega
        have h3:=qI back hd;rw[e];unfold eB bw;rw[e1,if_pos (by omega)];have h4:(bG 0 back:Int)<10^back.length:=by exact_mod_cast h3
        have h5:(0:Int)<10^(4-back.length):=Int.pow_pos (by decide);have h6:(bG 0 back:Int)*10^(4-back.length)<10^back.length*10^(4-back.length):=Int.mul_lt_mul_of_pos_right h4 h5;rw[←Int.pow_add,show back.length+(4-back.length)=4 by omega]at h6;exact h6
     rw[es];generalize bV back 1 4=r at *
     match l,hl,h3 with
     | [a],_,_=>
      show eO true (stepT ⟨r,true,false,10000,0⟩ (bw a) (bR 1 0 a))=_;have hR:bR 1 0 a=decide (0<=bL 0 a):=by unfold bR;simp
      rw[show dU 0 [a]=[bL 0 a] from rfl];by_cases h0:0<=bL 0 a
      . obtain⟨i0,b0,_⟩:=ki h0;rw[i0,hR,decide_eq_true h0];rw[if_neg (by simp;omega)];rw[rM (by rfl)];generalize bL 0 a=x at *
        show (if (false || decide (59<x))=true then _ else _)=if (decide (59<x/\(0<0\/1<3)) || false)=true then _ else _
        by_cases h59:59<x
        . simp[h59]
        . simp[h59];have e1:IntKind.i64.wrap (r+IntKind.i64.wrap (min x 99*10000))=10000*gr [x]+r:=by
           rw[kj (by omega),eQ (x:=x*10000) (by omega),eQ (by omega)];show r+x*10000=10000*(60*0+x)+r;omega
          show dy bm (IntKind.i64.wrap (r+IntKind.i64.wrap (min x 99*10000))) []=_;rw[e1]
      . rw[hR,decide_eq_false h0,kh (.inr rfl),if_pos (by simp;omega)]
     | [a,b],_,_=>
      show eO true (stepT (stepT ⟨r,true,false,10000,0⟩ (bw b) (bR 2 1 b)) (bw a) (bR 2 0 a))=_;have hR:bR 2 0 a=decide (0<=bL 0 a):=by unfold bR;simp
      have hR1:bR 2 1 b=decide (0<=bL 1 b):=by unfold bR;simp
      rw[show dU 0 [a,b]=[bL 0 a,bL 1 b] from rfl];by_cases h0:0<=bL 0 a/\0<=bL 1 b
      . obtain⟨i0,b0,_⟩:=ki h0.1;obtain⟨i1,_,b1⟩:=ki h0.2;have b1:=b1 (by decide);rw[i0,i1,hR,hR1,decide_eq_true h0.1,decide_eq_true h0.2];rw[if_neg (by simp;omega)];rw[rM (by rfl)];generalize bL 0 a=x at *
        generalize bL 1 b=y at *
        show (if ((false || decide (59<y)) || decide (59<x))=true then _ else _)=if (decide (59<x/\(0<0\/2<3)) || (decide (59<y/\(0<1\/2<3)) || false))=true then _ else _
        by_cases h59:59<x\/59<y
        . rcases h59 with h59|h59 <;> simp[h59]
        . have n1:¬59<x:=by omega
          have n2:¬59<y:=by omega
          simp[n1,n2];have e1:IntKind.i64.wrap (IntKind.i64.wrap (r+IntKind.i64.wrap (min y 99*10000))+IntKind.i64.wrap (min x 99*IntKind.i64.wrap (10000*60)))=10000*gr [x,y]+r:=by
           rw[kj (show x<=99 by omega),kj (show y<=99 by omega),eQ (x:=10000*60) (by omega),eQ (x:=y*10000) (by omega),eQ (x:=r+y*10000) (by omega),eQ (x:=x*(10000*60)) (by omega),eQ (by omega)];show r+y*10000+x*(10000*60)=10000*(60*(60*0+x)+y)+r;omega
          show dy bm (IntKind.i64.wrap (IntKind.i64.wrap (r+IntKind.i64.wrap (min y 99*10000))+IntKind.i64.wrap (min x 99*IntKind.i64.wrap (10000*60)))) []=_;rw[e1]
      . have hb:(stepT (stepT ⟨r,true,false,10000,0⟩ (bw b) (bR 2 1 b)) (bw a) (bR 2 0 a)).cG=false:=by
         show (true && bR 2 1 b && bR 2 0 a)=false;rw[hR,hR1];simp;intro h1;omega
        rw[kh (.inr hb),if_pos (by simp;omega)]
     | [a,b,c],_,_=>
      show eO true (stepT (stepT (stepT ⟨r,true,false,10000,0⟩ (bw c) (bR 3 2 c)) (bw b) (bR 3 1 b)) (bw a) (bR 3 0 a))=_;have hR:bR 3 0 a=decide (0<=bL 0 a):=by unfold bR;simp
      have hR1:bR 3 1 b=decide (0<=bL 1 b):=by unfold bR;simp
      have hR2:bR 3 2 c=decide (0<=bL 2 c):=by unfold bR;simp
      rw[show dU 0 [a,b,c]=[bL 0 a,bL 1 b,bL 2 c] from rfl];by_cases h0:0<=bL 0 a/\0<=bL 1 b/\0<=bL 2 c
      . obtain⟨i0,b0,_⟩:=ki h0.1;obtain⟨i1,_,b1⟩:=ki h0.2.1;obtain⟨i2,_,b2⟩:=ki h0.2.2;have b1:=b1 (by decide);have b2:=b2 (by decide);rw[i0,i1,i2,hR,hR1,hR2,decide_eq_true h0.1,decide_eq_true h0.2.1,decide_eq_true h0.2.2];rw[if_neg (by simp;omega)];rw[rM (by rfl)];generalize bL 0 a=x at *
        generalize bL 1 b=y at *
        generalize bL 2 c=z at *
        show (if ((((false || decide (59<z)) || decide (59<y))) || decide (99<x))=true then _ else _)=if (decide (59<x/\(0<0\/3<3)) || (decide (59<y/\(0<1\/3<3)) || (decide (59<z/\(0<2\/3<3)) || false)))=true then _ else _
        by_cases h59:59<y\/59<z
        . rcases h59 with h59|h59 <;> simp[h59]
        . have n1:¬59<y:=by omega
          have n2:¬59<z:=by omega
          simp[n1,n2];by_cases h99:99<x
          . simp[h99];rw[Ih];show 863999999<10000*(60*(60*(60*0+x)+y)+z)+r;omega
          . simp[h99];have e1:IntKind.i64.wrap (IntKind.i64.wrap (IntKind.i64.wrap (r+IntKind.i64.wrap (min z 99*10000))+IntKind.i64.wrap (min y 99*IntKind.i64.wrap (10000*60)))+IntKind.i64.wrap (min x 99*IntKind.i64.wrap (IntKind.i64.wrap (10000*60)*60)))=10000*gr [x,y,z]+r:=by
             rw[kj (show x<=99 by omega),kj (show y<=99 by omega),kj (show z<=99 by omega),eQ (x:=10000*60) (by omega),eQ (x:=10000*60*60) (by omega),eQ (x:=z*10000) (by omega),eQ (x:=r+z*10000) (by omega),eQ (x:=y*(10000*60)) (by omega),eQ (x:=r+z*10000+y*(10000*60)) (by omega),eQ (x:=x*(10000*60*60)) (by omega),eQ (by omega)];show r+z*10000+y*(10000*60)+x*(10000*60*60)=10000*(60*(60*(60*0+x)+y)+z)+r;omega
            show dy bm (IntKind.i64.wrap (IntKind.i64.wrap (IntKind.i64.wrap (r+IntKind.i64.wrap (min z 99*10000))+IntKind.i64.wrap (min y 99*IntKind.i64.wrap (10000*60)))+IntKind.i64.wrap (min x 99*IntKind.i64.wrap (IntKind.i64.wrap (10000*60)*60)))) []=_;rw[e1]
      . have hb:(stepT (stepT (stepT ⟨r,true,false,10000,0⟩ (bw c) (bR 3 2 c)) (bw b) (bR 3 1 b)) (bw a) (bR 3 0 a)).cG=false:=by
         show (true && bR 3 2 c && bR 3 1 b && bR 3 0 a)=false;rw[hR,hR1,hR2];simp;intro h1;omega
        rw[kh (.inr hb),if_pos (by simp;omega)]
   . rw[fb,if_pos (.inl (by omega))];refine kh (.inr ?_);obtain⟨m,hm⟩:∃m,l.length=m+1:=⟨l.length-1,by have:=List.length_pos_iff.2 hl;omega⟩;rw[hm];refine rL l m _ ?_;show (_ && bR _ _ _)=false;unfold bR;rw[decide_eq_false h3,Bool.and_false,Bool.and_false]
 . rw[fb,if_pos (.inr (by omega))];exact kh (.inr (rL l _ _ (decide_eq_false hs)))
theorem Ij (s:ae):nV s=jj s:=by
 unfold nV jj;cases hy:(aN 46 s).2 with
 | none=>exact kh (.inl rfl)
 | some b=>exact Ii _ (vZ 58 _) b
structure xL (M:au):Prop where
 ft:M.FT=FT
 xM:∀(s:ae) h,M.ext 112 [.str s] h=some ⟨.bool (decide (s∈eM)),h,[]⟩
 rN:∀(s:ae) b h,s.length<1000000->M.ext 120 [.str s,.str [b]] h=some ⟨.aq [.str (if bH b s then s.dropLast else s),.bool (bH b s)],h,[]⟩
 ix:∀(s:ae) h,s.length<1000000->M.ext 121 [.str s] h=some ⟨.aq [.iV (bw s),.bool (decide (0<=bE s))],h,[]⟩
 lH:∀k v r h,M.ext 122 [dx k v r] h=some ⟨(dy k v r).av,h,[]⟩
 xN:∀(s:ae) h,s.length<1000000->M.ext 123 [.str s] h=some ⟨(ke s).av,h,[]⟩
 xO:∀(s:ae) h,s.length<=24->M.ext 124 [.str s] h=some ⟨(jj s).av,h,[]⟩
theorem Ik (C:xL M)(s:ae)(hl:s.length<1000000):aJ M 46 [.str s] [] ⟨(cW s).av,[],[]⟩:=by
 refine bq (by rw[C.ft];exact HO) (by simp) ?_;have hdl:s.dropLast.length<=s.length:=by rw[List.length_dropLast];omega
 have q112:=fun h=>C.xM s h
 have qp:=fun h=>C.rN s 112 h hl
 have qm:=fun h=>C.rN s 109 h hl
 have q121:=fun h=>C.ix s.dropLast h (by omega)
 have q123:=fun h=>C.xN s.dropLast h (by omega)
 unfold xE;simp only[enter];by_cases h24:24<s.length
 . have e:cW s=dN 26:=if_pos h24;rw[e];repeat' first|apply Ke|apply aj|apply Kf|apply Kg|apply Ki|apply aF|(apply Kj;rfl)|(apply Ku;rfl;rfl)|(apply Ko;rfl;rfl;rfl)|(apply Kt;rfl;rfl;rfl)|(apply Kd;rfl;rfl)|(apply Kh;rfl;rfl)|(intro _;omega)|intro _
   all_goals try omega
   all_goals exact⟨.inr rfl,rfl,_,rfl,rfl,rfl⟩
 . have q124:=fun h=>C.xO s h (by omega)
   by_cases hr:s∈eM
   . have e:cW s=⟨gp,0,s,0⟩:=by rw[cW,if_neg h24,if_pos hr]
     rw[e];rw[decide_eq_true hr]at q112;repeat' first|apply Ke|apply aj|apply Kf|apply Kg|apply Ki|apply Kl|apply aF|(apply Kj;rfl)|(apply Kk;rfl)|(apply Ku;rfl;rfl)|(apply Km;rfl;rfl;first|exact q112 _)|(apply Ko;rfl;rfl;rfl)|(apply Kt;rfl;rfl;rfl)|(apply Kd;rfl;rfl)|(apply Kh;rfl;rfl)|(intro _;omega)|intro _
     all_goals try omega
     all_goals exact⟨.inr rfl,rfl,_,rfl,rfl,rfl⟩
   . rw[decide_eq_false hr]at q112;cases hp:bH 112 s with
     | true=>
      rw[hp,if_pos rfl]at qp;by_cases hf:bE s.dropLast<0
      . have e:cW s=dN 25:=by rw[cW,if_neg h24,if_neg hr,if_pos hp,if_pos hf]
        rw[e];rw[decide_eq_false (show ¬0<=bE s.dropLast by omega)]at q121;repeat' first|apply Ke|apply aj|apply Kf|apply Kg|apply Ki|apply Kl|apply aF|(apply Kj;rfl)|(apply Kk;rfl)|(apply Ku;rfl;rfl)|(apply Km;rfl;rfl;first|exact q112 _|exact qp _|exact q121 _)|(apply Ko;rfl;rfl;rfl)|(apply Kt;rfl;rfl;rfl)|(apply Kd;rfl;rfl)|(apply Kh;rfl;rfl)|(intro _;omega)|intro _
        all_goals try omega
        all_goals exact⟨.inr rfl,rfl,_,rfl,rfl,rfl⟩
      . have e:cW s=dy fT (bE s.dropLast) []:=by rw[cW,if_neg h24,if_neg hr,if_pos hp,if_neg hf]
        rw[e];have q122:=C.lH fT (bE s.dropLast) [];rw[decide_eq_true (show 0<=bE s.dropLast by omega),rE (by omega)]at q121;unfold PR.av at q122 ⊢;repeat' first|apply Ke|apply aj|apply Kf|apply Kg|apply Ki|apply Kl|apply aF|(apply Kj;rfl)|(apply Kk;rfl)|(apply Ku;rfl;rfl)|(apply Km;rfl;rfl;first|exact q112 _|exact qp _|exact q121 _|exact q122 _)|(apply Ko;rfl;rfl;rfl)|(apply Kt;rfl;rfl;rfl)|(apply Kd;rfl;rfl)|(apply Kh;rfl;rfl)|(intro _;omega)|intro _
        all_goals try omega
        all_goals exact⟨.inr rfl,rfl,_,rfl,rfl,rfl⟩
     | false=>
      rw[hp,if_neg (by decide)]at qp;cases hm:bH 109 s with
      | true=>
       have e:cW s=ke s.dropLast:=by rw[cW,if_neg h24,if_neg hr,hp,if_neg (by decide),if_pos hm]
       rw[hm,if_pos rfl]at qm;rw[e];unfold PR.av at q123 ⊢;repeat' first|apply Ke|apply aj|apply Kf|apply Kg|apply Ki|apply Kl|apply aF|(apply Kj;rfl)|(apply Kk;rfl)|(apply Ku;rfl;rfl)|(apply Km;rfl;rfl;first|exact q112 _|exact qp _|exact qm _|exact q123 _)|(apply Ko;rfl;rfl;rfl)|(apply Kt;rfl;rfl;rfl)|(apply Kd;rfl;rfl)|(apply Kh;rfl;rfl)|(intro _;omega)|intro _
       all_goals try omega
       all_goals exact⟨.inr rfl,rfl,_,rfl,rfl,rfl⟩
      | false=>
       have e:cW s=jj s:=by rw[cW,if_neg h24,if_neg hr,hp,if_neg (by decide),hm,if_neg (by decide)]
       rw[hm,if_neg (by decide)]at qm;rw[e];unfold PR.av at q124 ⊢;repeat' first|apply Ke|apply aj|apply Kf|apply Kg|apply Ki|apply Kl|(apply Kk;rfl)|(apply Ku;rfl;rfl)|(apply Km;rfl;rfl;first|exact q112 _|exact qp _|exact qm _|exact q124 _)|(apply Ko;rfl;rfl;rfl)|(apply Kt;rfl;rfl;rfl)|(apply Kd;rfl;rfl)|(apply Kh;rfl;rfl)|(intro _;omega)|intro _
       all_goals try omega
       all_goals exact⟨.inr rfl,rfl,_,rfl,rfl,rfl⟩
set_option maxRecDepth 1000000
def xP:ao:=zR [⟨.p 2,.mv (.c (.ak)),none⟩] (zR [zm 5 0,zm 6 1,⟨.l 7,.call (kF 268) [(.l 5),(.l 6),(kI 0),(kI (-1))],none⟩,zw 2 7] (.ret))
theorem Il:FT 229=some ⟨8,[0,1,4],[.var (.p 2)],xP⟩:=by kernel_rfl
def nW:ao:=.seq (zR [zm 34 6,zm 35 3,zb 36 .lss 34 35] (.cond (.l 36) (.skip) (.exit 0))) (.block 1 (zR [zm 37 0,zm 38 1,z2 39 310 37 38,zw 7 39] (.seq (zR [zm 40 7,zc 41 .lss 40 0] (.cond (.l 41) (.exit 0) (.skip))) (zR [zm 42 5,zm 43 6,zm 44 0,zm 45 7,zm 46 2,zb 47 .add 45 46,⟨.l 48,.slice .str 1 (.l 44) none (some (.l 47)) none,none⟩,za 49 1 42 43,zS 1 49 48] (zR [zm 50 0,zm 51 7,zm 52 1,zL 53 52,zb 54 .add 51 53,⟨.l 55,.slice .str 1 (.l 50) (some (.l 54)) none none,none⟩,zw 0 55] (.region [zm 56 6,zc 57 .add 56 1,zw 6 57]))))))
def xQ:ao:=zR [⟨.p 4,.mv (.c (.ak)),none⟩] (.seq (zR [zm 12 3,zc 13 .eql 12 0] (.cond (.l 13) (zR [⟨.p 4,.mv (.c (.ak)),none⟩] (.ret)) (.skip))) (.seq (zR [zm 14 1,⟨.l 15,.bin .eql (.l 14) (.c (.str [])),none⟩] (.cond (.l 15) (zR [zm 16 0,zm 17 3,z2 18 308 16 17,zw 4 18] (.ret)) (.skip))) (.seq (zR [zm 19 3,zc 20 .lss 19 0] (.cond (.l 20) (.region [zm 21 0,zm 22 1,z2 23 309 21 22,zc 24 .add 23 1,zw 3 24]) (.skip))) (zR [zm 25 3,zm 26 0,zL 27 26,zc 28 .add 27 1,⟨.l 29,.mm false [(.l 25),(.l 28)],none⟩,zw 3 29] (zR [zm 30 3,⟨.l 31,.fV 9 1 16 [.str []] (.l 30) (.l 30),none⟩,zw 5 31] (zR [zm 32 3,zc 33 .sub 32 1,zw 3 33] (zR [zi 6 0] (.seq (.block 0 (.loop nW)) (zR [zm 58 5,zm 59 6,zm 60 0,za 61 1 58 59,zS 1 61 60] (zR [zm 62 5,zm 63 6,zc 64 .add 63 1,⟨.l 65,.slice .sl 1 (.l 62) none (some (.l 64)) none,none⟩,zw 4 65] (.ret)))))))))))
theorem Im:FT 268=some ⟨66,[0,1,2,3,8,9,10,11],[.var (.p 4)],xQ⟩:=by kernel_rfl
def Io:ao:=.block 1 (zR [zm 20 0,zm 21 1,z2 22 310 20 21,zw 4 22] (.seq (zR [zm 23 4,zc 24 .eql 23 (-1)] (.cond (.l 24) (zR [zm 25 3,zw 2 25] (.ret)) (.skip))) (zR [zm 26 3,zc 27 .add 26 1,zw 3 27] (.region [zm 28 0,zm 29 4,zm 30 1,zL 31 30,zb 32 .add 29 31,⟨.l 33,.slice .str 1 (.l 28) (some (.l 32)) none none,none⟩,zw 0 33]))))
def xR:ao:=zR [zi 2 0] (.seq (zR [zm 7 1,zL 8 7,zc 9 .eql 8 0] (.cond (.l 9) (zR [zm 10 0,z1 11 328 10,zc 12 .add 11 1,zw 2 12] (.ret)) (.skip))) (.seq (zR [zm 13 1,zL 14 13,zc 15 .eql 14 1] (.cond (.l 15) (zR [zm 16 0,zm 17 1,⟨.l 18,.index (.l 17) (kI 0),none⟩,z2 19 329 16 18,zw 2 19] (.ret)) (.skip))) (zR [zi 3 0] (.block 0 (.loop Io)))))
theorem Ip:FT 309=some ⟨34,[0,1,4,5,6],[.var (.p 2)],xR⟩:=by kernel_rfl
def xS:ao:=zR [zi 2 0] (zR [zm 5 0,zm 6 1,z2 7 256 5 6,zw 2 7] (.ret))
theorem Iq:FT 310=some ⟨8,[0,1,4],[.var (.p 2)],xS⟩:=by kernel_rfl
def xT:ao:=zR [zx 1 146 1 0,⟨.p 2,.mv (.c (.cH)),none⟩] (zR [⟨.l 3,.jt (.func 269) [] [(.p 1)],none⟩,zw 2 3] (.ret))
theorem Ir:FT 230=some ⟨4,[0,1,2],[.var (.p 2)],xT⟩:=by kernel_rfl
def nX:ao:=.seq (zR [zm 7 2,zc 8 .geq 7 0] (.cond (.l 8) (.skip) (.exit 0))) (.seq (.block 1 (zR [zm 11 0,zm 12 2,⟨.l 13,.load 1 false (.p 1),none⟩,zm 14 2,za 15 1 13 14,zd 16 1 15,⟨.l 17,.call (.l 11) [(.l 12),(.l 16)],none⟩,zu 18 17] (.cond (.l 18) (.ret) (.skip)))) (.region [zm 9 2,zc 10 .sub 9 1,zw 2 10]))
def xU:ao:=zR [⟨.l 4,.load 1 false (.p 1),none⟩,zl 5 4,zc 6 .sub 5 1,zw 2 6] (.block 0 (.loop nX))
theorem Is:FT 269=some ⟨19,[0,1,3],[],xU⟩:=by kernel_rfl
def xV:ao:=zR [zx 1 9 1 0,⟨.p 2,.mv (.c (.cH)),none⟩] (zR [⟨.l 3,.jt (.func 228) [] [(.p 1)],none⟩,zw 2 3] (.ret))
theorem It:FT 189=some ⟨4,[0,1,2],[.var (.p 2)],xV⟩:=by kernel_rfl
def xW:ao:=zR [zx 2 231 1 0] (zR [⟨.l 8,.load 1 false (.p 1),none⟩,⟨.l 9,.call (kF 229) [(.l 8),(.c (.str [58]))],none⟩,⟨.p 3,.alloc 146 [.ak],none⟩,zs 1 3 9] (zR [⟨.l 10,.load 1 false (.p 3),none⟩,z1 11 230 10] (.block 0 (.rangeFunc false (.l 11) [(.p 8),(.p 9)] (zR [⟨.p 4,.mv (.p 8),none⟩] (.region [⟨.p 5,.mv (.p 9),none⟩])) (.block 1 (zR [zm 15 5,z1 16 121 15,zn 14 16,ze 17 0 14,ze 18 1 14,zw 6 17,zw 7 18] (.seq (zR [zm 19 4,zc 20 .gtr 19 0] (.cond (.l 20) (zR [zm 22 5,z1 23 187 22,zn 21 23,ze 24 0 21,ze 25 1 21,zw 6 24,zw 7 25] (.region [zm 26 7,zn 27 26,zg (zm 28 5) 27 true,zg (zL 29 28) 27 true,zg (zc 30 .eql 29 2) 27 true,zp 31 27 30,zw 7 31])) (.skip))) (zR [⟨.l 32,.load 1 false (.p 2),none⟩,zm 33 6,zm 34 7,zn 35 34,⟨.l 36,.load 1 false (.p 3),some ((.l 35),true)⟩,zg (zl 37 36) 35 true,zg (zc 38 .leq 37 3) 35 true,zp 39 35 38,⟨.l 40,.call (.l 32) [(.l 33),(.l 39)],none⟩,zu 41 40] (.cond (.l 41) (.ret) (.skip))))))))))
theorem Iu:FT 228=some ⟨42,[0,1,2,3,4,5,6,7,12,13],[],xW⟩:=by kernel_rfl
def t124:ao:=zR [⟨.l 63,.load 1 false (.p 6),none⟩,⟨.l 64,.build [.str [],.iV (0),.str []] [(0,1,(.c (.str zD13))),(1,1,(.l 63))],none⟩,⟨.p 13,.alloc 49 [.str [],.iV (0),.str []],none⟩,zs 3 13 64] (.seq (.seq (.draw [(zm 65 5,[]),(zu 66 65,[]),(zn 67 66,[]),(⟨.l 68,.load 1 false (.p 7),some ((.l 67),false)⟩,[]),(zg (zu 69 68) 67 false,[]),(zP 70 67 69,[]),(⟨.l 71,.call (kF 97) [(.l 70),(kI 25)],none⟩,[]),(⟨.l 72,.load 1 false (.p 8),none⟩,[0,1,2,3,4,5,6]),(⟨.l 73,.call (kF 97) [(.l 72),(kI 3)],none⟩,[]),(zt 74 3 13,[0,1,2,3,4,5,6,7,8]),(z1 75 36 74,[]),(⟨.l 76,.fo 25 3 1 [.iV (0)] [(0,1,(.l 71)),(1,1,(.l 73)),(2,1,(.l 75))],none⟩,[]),(z1 77 96 76,[]),(zw 14 77,[])]) (zR [zm 78 14,zc 79 .neq 78 0] (.cond (.l 79) (zR [⟨.l 80,.build [.str [],.iV (0),.str []] [],none⟩,zm 81 14,zs 3 1 80,zw 2 81] (.ret)) (.skip)))) (zR [zt 82 3 13,zs 3 1 82,zi 2 0] (.ret)))
def xX:ao:=zR [⟨.p 1,.alloc 49 [.str [],.iV (0),.str []],none⟩,zi 2 0] (zR [zm 17 0,⟨.l 18,.call (kF 163) [(.l 17),(.c (.str [46]))],none⟩,zn 16 18,ze 19 0 16,ze 20 1 16,ze 21 2 16,zw 3 19,zw 4 20,zw 5 21] (zR [zm 23 4,⟨.l 24,.call (kF 188) [(.l 23),(kI 1),(kI 4)],none⟩,zn 22 24,ze 25 0 22,ze 26 1 22,⟨.p 6,.alloc 3 [.iV (0)],none⟩,⟨.p 7,.alloc 4 [.bool false],none⟩,zs 1 6 25,zs 1 7 26] (zR [⟨.p 8,.alloc 4 [.bool false],none⟩,⟨.p 9,.alloc 3 [.iV (0)],none⟩,⟨.p 10,.alloc 3 [.iV (0)],none⟩,⟨.no,.store 1 (.p 8) (.c (.bool false)),none⟩,⟨.no,.store 1 (.p 9) (kI 10000),none⟩,⟨.no,.store 1 (.p 10) (kI 0),none⟩] (.seq (zR [zm 27 3,z1 28 189 27] (.block 0 (.rangeFunc false (.l 28) [(.p 15),(.p 16)] (zR [⟨.p 11,.mv (.p 15),none⟩] (.region [⟨.p 12,.mv (.p 16),none⟩])) (.block 1 (zR [⟨.l 31,.load 1 false (.p 7),none⟩,zn 32 31,zg (zm 33 12) 32 true,zp 34 32 33,zs 1 7 34] (zR [⟨.l 35,.load 1 false (.p 8),none⟩,zn 36 35,⟨.l 37,.load 1 false (.p 10),some ((.l 36),false)⟩,zg (zc 38 .lss 37 2) 36 false,zg (zn 39 38) 36 false,zg (zm 40 11) 39 true,zg (zc 41 .gtr 40 59) 39 true,zg (zp 42 39 41) 36 false,zP 43 36 42,zs 1 8 43] (.seq (zR [⟨.l 44,.load 1 false (.p 10),none⟩,zc 45 .eql 44 2] (.cond (.l 45) (zR [⟨.l 46,.load 1 false (.p 8),none⟩,zn 47 46,zg (zm 48 11) 47 false,zg (zc 49 .gtr 48 99) 47 false,zP 50 47 49,zs 1 8 50] (.region [zm 51 11,⟨.l 52,.mm false [(.l 51),(kI 99)],none⟩,zw 11 52])) (.skip))) (zR [⟨.l 53,.load 1 false (.p 6),none⟩,zm 54 11,⟨.l 55,.mm false [(.l 54),(kI 99)],none⟩,⟨.l 56,.load 1 false (.p 9),none⟩,zb 57 .mul 55 56,zb 58 .add 53 57,zs 1 6 58] (zR [⟨.l 59,.load 1 false (.p 9),none⟩,zc 60 .mul 59 60,zs 1 9 60] (.region [⟨.l 61,.load 1 false (.p 10),none⟩,zc 62 .add 61 1,zs 1 10 62]))))))))))
      t124))))
theorem Iv:FT 124=some ⟨83,[0,2,3,4,5,6,7,8,9,10,11,12,13,14,15,29,30],[.cell 3 true (.p 1),.var (.p 2)],xX⟩:=by kernel_rfl
theorem xY:∀n:Nat,dW [AV.str []] n=strs (List.replicate n [])
 | 0=>rfl
 | n+1=>by
  rw[dW,xY n,List.replicate_succ];rfl
theorem Mc {t b o len c:Nat}{x y:an}{l:List aw}{pe:List AV}{lo:List (Nat×AV)}{hp:ab}{df wr:List Nat}{k:Nat}{Q:ah->Prop}(hx:(St.mk pe lo hp df).aa x=some (.sl b o len 1 (some c)))(hy:(St.mk pe lo hp df).aa y=some (.iV k))(hn:0<k/\k<=c)
 (h:WO M l ⟨⟨pe,(t,.sl b o k 1 (some c))::lo,hp,df⟩,wr⟩ Q):WO M (⟨.l t,.slice .sl 1 x none (some y) none,none⟩::l) ⟨⟨pe,lo,hp,df⟩,wr⟩ Q:=by
 refine Kd (v:=.sl b o k 1 (some c)) ?_ rfl h;have h1:(0:Int)<=(k:Int)/\(k:Int)<=c:=⟨by omega,by omega⟩;simp only[aC,hx,St.bS,hy,Option.map_some,gz,aO,Option.getD_some];simp[h1,hn.1]
theorem xZ (b:UInt8):∀(s:ae) (n:Int),s.foldl (fun n x=>if x == b then n+1 else n) n=n+dc b s
 | [],n=>by simp[dc]
 | c::s,n=>by
  rw[List.foldl_cons,xZ b s,dc];by_cases hc:c=b
  . simp[hc];omega
  . simp[hc]
theorem Ix (s:ae)(b:UInt8):(ByteArray.mk s.toArray).foldl (fun n x=>if x == b then n+1 else n) ((0:Nat):Int)=dc b s:=by
 rw[Go.Lib.foldl_data];show s.foldl _ _=_;rw[xZ];simp
structure kl (M:au):Prop extends jZ M where
 yb:∀ars h,M.ext 310 ars h=none
 yc:∀ars h,M.ext 309 ars h=none
 yd:∀ars h,M.ext 268 ars h=none
 ye:∀(s:ae) (c:Int) h,M.ext 329 [.str s,.int .u8 c] h=some ⟨.iV ((ByteArray.mk s.toArray).foldl (fun n x=>if x == c.toNat.toUInt8 then n+1 else n) ((0:Nat):Int)),h,[]⟩
theorem Iy (C:kl M)(s:ae)(b:UInt8)(H:ab):CT M (gn 310) [.str s,.str [b]] H ⟨.iV (firstIdx ⟨s.toArray⟩ b),H,[]⟩:=by
 have hc:=vY C.tojZ s b H;refine CT.run (C.yb _ _) (ik (by rw[C.ft];exact Iq) (by simp) ?_);simp only[List.nil_append,List.append_nil];unfold xS;simp only[enter];repeat' first|apply Ke|apply aj|apply Kf|apply Kg|apply Ki|(apply KO;rfl;rfl;first|exact hc)|(apply Kd;rfl;rfl)|(apply Kh;rfl;rfl)
 exact⟨.inr rfl,rfl,rfl,rfl,_,rfl,rfl⟩
theorem Iz (C:kl M)(s:ae)(b:UInt8)(H:ab):CT M (gn 309) [.str s,.str [b]] H ⟨.iV (dc b s),H,[]⟩:=by
 have hc:=C.ye s b.toNat H;rw[vX,Ix]at hc;have hn1:([b]:ae).length=1:=rfl;refine CT.run (C.yc _ _) (ik (by rw[C.ft];exact Ip) (by simp) ?_);simp only[List.nil_append,List.append_nil];unfold xR;simp only[enter];repeat' first|apply Ke|apply aj|apply Kf|apply Kg|apply Ki|apply Kl|apply aF|(apply Kj;rfl)|(apply Kk;rfl)|(apply Ks;rfl;rfl)|(apply Km;rfl;rfl;first|exact hc)|(apply KP;rfl;rfl;omega)|(apply Kd;rfl;rfl)|(apply Kh;rfl;rfl)|(intro _;omega)|intro _
 exact⟨.inr rfl,rfl,rfl,rfl,_,rfl,rfl⟩
theorem Md {t:Nat}{x:an}{l:List aw}{pe:List AV}{lo:List (Nat×AV)}{hp:ab}{df wr:List Nat}{k:Nat}{Q:ah->Prop}(hx:(St.mk pe lo hp df).aa x=some (.iV k))(hk:k<1000000)
 (h:WO M l ⟨⟨pe,(t,.sl hp.length 0 k 1 (some k))::lo,hp++[some (.cells (strs (List.replicate k [])) 9)],df⟩,wr⟩ Q):WO M (⟨.l t,.fV 9 1 16 [.str []] x x,none⟩::l) ⟨⟨pe,lo,hp,df⟩,wr⟩ Q:=by
 refine WO.Ch hx hx ⟨by omega,Int.le_refl _,by unfold fv;omega,by omega,rfl⟩ ?_;rw[Int.toNat_natCast,xY];exact h
theorem yf (d:List ae)(k:Nat)(x:ae):(d++List.replicate (k+1) []).set d.length x=(d++[x])++List.replicate k []:=by
 rw[List.set_append_right _ _ (Nat.le_refl _),Nat.sub_self,List.replicate_succ,List.set_cons_zero,List.append_assoc];rfl
theorem IB (C:kl M)(b:UInt8)(n:Nat)(hn:n<1000000)(L:List ae){Q:Ex->ah->Prop}:∀(r:Nat) (d:List ae) (t:ae) (a7:AV) (lo:List (Nat×AV)) (wr:List Nat),d.length+r+1=n->dc b t=r->t.length<1000000->d++aU b t=L ->
 (∀d t a7 lo wr,d.length+1=n->d++[t]=L->Q (.exit 0) ⟨⟨[.str t,.str [b],.iV 0,.iV ((n:Int)-1),.ak,.sl 0 0 n 1 (some n),.iV d.length,a7],lo,[some (.cells (strs (d++List.replicate 1 [])) 9)],[]⟩,wr⟩) ->
 W M (.loop nW) ⟨⟨[.str t,.str [b],.iV 0,.iV ((n:Int)-1),.ak,.sl 0 0 n 1 (some n),.iV d.length,a7],lo,[some (.cells (strs (d++List.replicate (r+1) [])) 9)],[]⟩,wr⟩ Q:=by
 intro r;induction r with
 | zero=>
  intro d t a7 lo wr h1 h2 h3 h4 hQ;have h0:=ka (wa h2);rw[h0.2.1]at h4;refine W.loop ?_;unfold nW;repeat' first|apply Ke|apply aj|apply Kf|apply Kg|apply Kx|apply bX|apply cB|(apply Kk;rfl)|(apply Kz;rfl;rfl)|(apply Kd;rfl;rfl)|(intro _;omega)|intro _
  exact hQ _ _ _ _ _ (by omega) h4
 | succ r ih=>
  intro d t a7 lo wr h1 h2 h3 h4 hQ;have hi:=Iy C t b [some (.cells (strs (d++List.replicate (r+1+1) [])) 9)];rw[wb]at hi;have hn1:([b]:ae).length=1:=rfl;cases hy:(aN b t).2 with
  | none=>
   have:=(ka hy).2.2;omega
  | some y=>
   rw[if_neg (by rw[hy];simp)]at hi;have g1:=rh hy;have g2:=wc hy;have g3:=we hy;have g4:=kb hy;generalize hx:(aN b t).1=x at g1 g2 g3 g4 hi;have hlen:(d++List.replicate (r+1+1) ([]:ae)).length=n:=by simp;omega
   refine W.loop ?_;unfold nW;repeat' first|(apply Lj (r:=x);rfl;rfl;omega;(rw[show ((x.length:Int)+0).toNat=x.length by omega];exact g2))|(apply Lm (r:=y);rfl;rfl;omega;(rw[show ((x.length:Int)+(([b]:ae).length:Int)).toNat=x.length+1 by omega];exact g3))|apply Ke|apply aj|apply Kf|apply Kg|apply Kn|apply Kl|apply bn|(apply Kj;rfl)|(apply Kk;rfl)|(apply Kz;rfl;rfl)|(apply KC;rfl;rfl;omega)|(apply KO;rfl;rfl;first|exact hi)|(apply KZ;rfl;rfl;omega)|(apply LA;rfl;rfl;(first|rfl|assumption|exact dt|(apply aG;assumption)|(apply dG;first|assumption|(simp only[iT];assumption)));exact fun _=>rfl;(first|omega|(simp only[List.length_set];omega)|(simp;omega));exact⟨rfl,by decide,rfl⟩;rfl;case ia=>infer_instance)|(apply Kd;rfl;rfl)|(apply Kh;rfl;rfl)|(intro _;omega)|intro _
   refine iQ ?_;have e:=ih (d++[x]) y (.iV (x.length:Nat)) [(57,.iV ((d.length:Int)+1)),(56,.iV d.length)] (0::([]++wr)) (by simp;omega) (by omega) (by omega) (by rw[←h4,g4.2.1];simp) hQ;rw[show ((d++[x]).length:Int)=(d.length:Int)+1 by simp,←yf d (r+1) x]at e;rw[show ((d.length:Int)).toNat=d.length from Int.toNat_natCast _];exact e
theorem IC (C:kl M)(s:ae)(b:UInt8)(hl:s.length<500000):CT M (gn 268) [.str s,.str [b],.iV 0,.iV (-1)] [] ⟨.sl 0 0 (aU b s).length 1 (some (aU b s).length),[some (.cells (strs (aU b s)) 9)],[]⟩:=by
 have hc:=Iz C s b [];have hle:=rf b s;have hL:=re b s;generalize hn:(aU b s).length=n at hL;have e1:(dc b s:Int)+1=(n:Int):=by omega
 rw[show (dc b s:Int)=(n:Int)-1 by omega]at hc;have hn1:([b]:ae).length=1:=rfl;refine CT.run (C.yd _ _) ?_;simp only[List.nil_append,List.append_nil];refine bq (by rw[C.ft];exact Im) (by simp) ?_;unfold xQ;simp only[enter];repeat' first|(apply KA;rfl;rfl;(intro h;exact absurd h (by simp));intro _)|(apply La (m:=(n:Int));rfl;rfl;omega)|(apply Md (k:=n);rfl;omega)|apply Ke|apply aj|apply Kf|apply Kg|apply Kn|apply Kl|(apply Kj;rfl)|(apply Kk;rfl)|(apply Kz;rfl;rfl)|(apply Ks;rfl;rfl)|(apply KC;rfl;rfl;omega)|(apply KU;rfl;rfl;omega)|(apply KO;rfl;rfl;first|exact hc)|(apply Kd;rfl;rfl)|(apply Kh;rfl;rfl)|(intro _;omega)|intro _
 rw[show List.replicate n ([]:ae)=[]++List.replicate (dc b s+1) [] by rw[hL];rfl];refine IB C b n (by omega) (aU b s) (dc b s) [] s _ _ _ (by simp;omega) rfl (by omega) (by simp) (fun d t a7 lo wr h1 h2=>?_);have hlen:(d++List.replicate 1 ([]:ae)).length=n:=by simp;omega
 repeat' first|(apply Mc (k:=n);rfl;(exact congrArg some (congrArg (AV.int .i64) (by omega)));omega)|apply Ke|apply aj|apply Kf|apply Kg|apply Ki|apply cg|(apply KC;rfl;rfl;omega)|(apply KZ;rfl;rfl;omega)|(apply LA;rfl;rfl;(first|rfl|assumption|exact dt|(apply aG;assumption)|(apply dG;first|assumption|(simp only[iT];assumption)));exact fun _=>rfl;(first|omega|(simp only[List.length_set];omega)|(simp;omega));exact⟨rfl,by decide,rfl⟩;rfl;case ia=>infer_instance)|(apply Kd;rfl;rfl)|(apply Kh;rfl;rfl)
 have he:(d++List.replicate 1 ([]:ae)).set ((d.length:Int)).toNat t=aU b s:=by
  rw[Int.toNat_natCast,yf d 0 t,←h2];simp
 rw[he];exact⟨.inr rfl,rfl,_,rfl,rfl,rfl⟩
theorem ID (C:kl M)(s:ae)(b:UInt8)(hl:s.length<500000):aJ M 229 [.str s,.str [b]] [] ⟨.sl 0 0 (aU b s).length 1 (some (aU b s).length),[some (.cells (strs (aU b s)) 9)],[]⟩:=by
 have hc:=IC C s b hl;refine bq (by rw[C.ft];exact Il) (by simp) ?_;unfold xP;simp only[enter];repeat' first|apply Ke|apply aj|apply Kf|apply Kg|apply Ki|(apply KO;rfl;rfl;first|exact hc)|(apply Kd;rfl;rfl)|(apply Kh;rfl;rfl)
 exact⟨.inr rfl,rfl,_,rfl,rfl,rfl⟩
abbrev IE:ao:=
 (zR [⟨(.p 11),.mv (.p 15),none⟩]
 (.region [⟨(.p 12),.mv (.p 16),none⟩]))
abbrev IF:ao:=
 (.block 1
 (zR [⟨(.l 31),.load 1 false (.p 7),none⟩,
 zn 32 31,
 zg (zm 33 12) 32 true,
 zp 34 32 33,
 zs 1 7 34]
 (zR [⟨(.l 35),.load 1 false (.p 8),none⟩,
 zn 36 35,
 ⟨(.l 37),.load 1 false (.p 10),some ((.l 36),false)⟩,
 zg (zc 38 .lss 37 2) 36 false,
 zg (zn 39 38) 36 false,
 zg (zm 40 11) 39 true,
 zg (zc 41 .gtr 40 59) 39 true,
 zg (zp 42 39 41) 36 false,
 zP 43 36 42,
 zs 1 8 43]
 (.seq (zR [⟨(.l 44),.load 1 false (.p 10),none⟩,
 zc 45 .eql 44 2]
 (.cond (.l 45)
 (zR [⟨(.l 46),.load 1 false (.p 8),none⟩,
 zn 47 46,
 zg (zm 48 11) 47 false,
 zg (zc 49 .gtr 48 99) 47 false,
 zP 50 47 49,
 zs 1 8 50]
 (.region [zm 51 11,
 ⟨(.l 52),.mm false [(.l 51),(kI 99)],none⟩,
 zw 11 52]))
 (.skip)))
 (zR [⟨(.l 53),.load 1 false (.p 6),none⟩,
 zm 54 11,
 ⟨(.l 55),.mm false [(.l 54),(kI 99)],none⟩,
 ⟨(.l 56),.load 1 false (.p 9),none⟩,
 zb 57 .mul 55 56,
 zb 58 .add 53 57,
 zs 1 6 58]
 (zR [⟨(.l 59),.load 1 false (.p 9),none⟩,
 zc 60 .mul 59 60,
 zs 1 9 60]
 (.region [⟨(.l 61),.load 1 false (.p 10),none⟩,
 zc 62 .add 61 1,
 zs 1 10 62])))))))
abbrev yg:ao:=
 (zR [⟨(.p 4),.mv (.p 8),none⟩]
 (.region [⟨(.p 5),.mv (.p 9),none⟩]))
abbrev yh:ao:=
 (.block 1
 (zR [zm 15 5,
 z1 16 121 15,
 zn 14 16,
 ze 17 0 14,
 ze 18 1 14,
 zw 6 17,
 zw 7 18]
 (.seq (zR [zm 19 4,
 zc 20 .gtr 19 0]
 (.cond (.l 20)
 (zR [zm 22 5,
 z1 23 187 22,
 zn 21 23,
 ze 24 0 21,
 ze 25 1 21,
 zw 6 24,
 zw 7 25]
 (.region [zm 26 7,
 zn 27 26,
 zg (zm 28 5) 27 true,
 zg (zL 29 28) 27 true,
 zg (zc 30 .eql 29 2) 27 true,
 zp 31 27 30,
 zw 7 31]))
 (.skip)))
 (zR [⟨(.l 32),.load 1 false (.p 2),none⟩,
 zm 33 6,
 zm 34 7,
 zn 35 34,
 ⟨(.l 36),.load 1 false (.p 3),some ((.l 35),true)⟩,
 zg (zl 37 36) 35 true,
 zg (zc 38 .leq 37 3) 35 true,
 zp 39 35 38,
 ⟨(.l 40),.call (.l 32) [(.l 33),(.l 39)],none⟩,
 zu 41 40]
 (.cond (.l 41)
 (.ret)
 (.skip))))))
abbrev yi (s f b:ae)(fd:Bool)(u1 u2 u3 u4:AV):List AV:=[.str s,.ptr 0 0,.iV 0,.str f,.str b,.bool fd,.ptr 1 0,.ptr 2 0,.ptr 3 0,.ptr 4 0,.ptr 5 0,u1,u2,aW,aW,u3,u4]
abbrev HA (s f b:ae)(fd:Bool)(t:dC)(st:LoopState)(pend:Option Ex)(u1 u2 u3 u4:AV)(R:ab):ab:=
 some (.cells [.str [],.iV 0,.str []] 49)::some (.cells [.iV t.n] 3)::some (.cells [.bool t.cG] 4)::some (.cells [.bool t.dp] 4)::some (.cells [.iV t.unit] 3)::some (.cells [.iV t.count] 3) ::
 some (.cells [.str f] 9)::some .cO::some (.loop st pend (yi s f b fd u1 u2 u3 u4) [(.p 15),(.p 16)] IE IF)::R
theorem eR {v:AV}{n:Nat}{s:ah}{H:ab}(hh:s.s.hp=H)(h:H.length<=n):cz v n s=⟨v,H,s.wr.filter (· < n)⟩:=by
 unfold cz;rw[List.take_of_length_le (by rw[hh];exact h),hh];split <;> rfl
theorem iy {n unit count:Int}{cG fine' dp far':Bool}(h1:cG=fine')(h2:dp=far'):(⟨n,cG,dp,unit,count⟩:dC)=⟨n,fine',far',unit,count⟩:=by rw[h1,h2]
theorem WO.km {v:Nat}{g:an}{args:List an}{ls:List aw}{pe0:List AV}{lo:List (Nat×AV)}{df wr:List Nat}{Q:ah->Prop}{s f b:ae}{fd:Bool}{t:dC}{u1 u2 u3 u4:AV}{R:ab}{x:Int}{right:Bool}
 (hc:0<=t.count/\t.count<1000000) (hx:0<=x/\x<1000000000)
 (hf:(St.mk pe0 lo (HA s f b fd t .ready none u1 u2 u3 u4 R) df).aa g=some (.fn (.yield 8) [] [])) (ha:(St.mk pe0 lo (HA s f b fd t .ready none u1 u2 u3 u4 R) df).bp args=some [.iV x,.bool right])
 (h:∀u1 u2 u3 u4 wr',WO M ls ⟨⟨pe0,(v,.bool true)::lo,HA s f b fd (stepT t x right) .ready none u1 u2 u3 u4 R,df⟩,wr'⟩ Q) :
 WO M (⟨.l v,.call g args,none⟩::ls) ⟨⟨pe0,lo,HA s f b fd t .ready none u1 u2 u3 u4 R,df⟩,wr⟩ Q:=by
 obtain⟨n,cG,dp,unit,count⟩:=t;have h':∀(n':Int) (fine' far':Bool) (unit' count':Int) (u1 u2 u3 u4:AV) wr',(⟨n',fine',far',unit',count'⟩:dC)=stepT ⟨n,cG,dp,unit,count⟩ x right->WO M ls ⟨⟨pe0,(v,.bool true)::lo,HA s f b fd ⟨n',fine',far',unit',count'⟩ .ready none u1 u2 u3 u4 R,df⟩,wr'⟩ Q:=
  fun n' fine' far' unit' count' u1 u2 u3 u4 wr' e=>by rw[e];exact h _ _ _ _ _
 have hm:(min x 99=x/\x<=99)\/(min x 99=99/\99<=x):=by omega
 have hm2:(min x 99=min x 99/\min x 99<=99)\/(min x 99=99/\99<=min x 99):=by omega
 have hc:0<=count/\count<1000000:=hc;refine WO.ur (s0:=⟨yi s f b fd u1 u2 (.iV x) (.bool right),[],HA s f b fd ⟨n,cG,dp,unit,count⟩ .ready none u1 u2 u3 u4 R,[]⟩) hf ha rfl rfl ?_;repeat' first|apply Ke|apply aj|apply Kf|apply Kg|(apply Kh;rfl;rfl)
 refine uu rfl ?_;clear h hf ha;cases cG with
 | false=>
  cases dp with
  | false=>
   cases right with
   | false=>
    repeat' first|(apply La (m:=min x 99);rfl;rfl;first|exact hm|exact hm2)|apply Ke|apply aj|apply Kf|apply Kg|apply Kn|apply Kl|apply bn|(apply Kj;rfl)|(apply Kk;rfl)|(apply Ky;rfl)|(apply Kv;rfl)|(apply KB;rfl)|(apply Kz;rfl;rfl)|(apply Ku;rfl;rfl)|(apply Ks;rfl;rfl)|(apply Kp;rfl;rfl)|(apply Kq;rfl;rfl)|(apply KC;rfl;rfl;omega)|(apply KF;rfl;rfl;rfl)|(apply Kt;rfl;rfl;rfl)|(apply Kd;rfl;rfl)|(apply Kh;rfl;rfl)|(intro _;omega)|intro _
    all_goals try omega
    all_goals refine⟨_,_,_,_,rfl,rfl,?_⟩
    all_goals rw[eR rfl (by simp only[ab.put,List.length_set];exact Nat.le_refl _)]
    all_goals refine h' (IntKind.i64.wrap (n+IntKind.i64.wrap (min x 99*unit))) _ _ (IntKind.i64.wrap (unit*60)) (count+1) _ _ _ _ _ (iy rfl ?_)
    all_goals (dsimp only at *;simp only[Bool.false_or];try ((split <;> try split) <;> first|rfl|(omega)|(rw[decide_eq_true (by omega)])|(rw[decide_eq_false (by omega)])))
   | true=>
    repeat' first|(apply La (m:=min x 99);rfl;rfl;first|exact hm|exact hm2)|apply Ke|apply aj|apply Kf|apply Kg|apply Kn|apply Kl|apply bn|(apply Kj;rfl)|(apply Kk;rfl)|(apply Ky;rfl)|(apply Kv;rfl)|(apply KB;rfl)|(apply Kz;rfl;rfl)|(apply Ku;rfl;rfl)|(apply Ks;rfl;rfl)|(apply Kp;rfl;rfl)|(apply Kq;rfl;rfl)|(apply KC;rfl;rfl;omega)|(apply KF;rfl;rfl;rfl)|(apply Kt;rfl;rfl;rfl)|(apply Kd;rfl;rfl)|(apply Kh;rfl;rfl)|(intro _;omega)|intro _
    all_goals try omega
    all_goals refine⟨_,_,_,_,rfl,rfl,?_⟩
    all_goals rw[eR rfl (by simp only[ab.put,List.length_set];exact Nat.le_refl _)]
    all_goals refine h' (IntKind.i64.wrap (n+IntKind.i64.wrap (min x 99*unit))) _ _ (IntKind.i64.wrap (unit*60)) (count+1) _ _ _ _ _ (iy rfl ?_)
    all_goals (dsimp only at *;simp only[Bool.false_or];try ((split <;> try split) <;> first|rfl|(omega)|(rw[decide_eq_true (by omega)])|(rw[decide_eq_false (by omega)])))
  | true=>
   cases right with
   | false=>
    repeat' first|(apply La (m:=min x 99);rfl;rfl;first|exact hm|exact hm2)|apply Ke|apply aj|apply Kf|apply Kg|apply Kn|apply Kl|apply bn|(apply Kj;rfl)|(apply Kk;rfl)|(apply KB;rfl)|(apply KD;rfl)|(apply KS;rfl)|(apply Ks;rfl;rfl)|(apply Kp;rfl;rfl)|(apply Kq;rfl;rfl)|(apply KC;rfl;rfl;omega)|(apply KF;rfl;rfl;rfl)|(apply Kt;rfl;rfl;rfl)|(apply Kd;rfl;rfl)|(apply Kh;rfl;rfl)|(intro _;omega)|intro _
    all_goals try omega
    all_goals refine⟨_,_,_,_,rfl,rfl,?_⟩
    all_goals rw[eR rfl (by simp only[ab.put,List.length_set];exact Nat.le_refl _)]
    all_goals refine h' (IntKind.i64.wrap (n+IntKind.i64.wrap (min x 99*unit))) _ _ (IntKind.i64.wrap (unit*60)) (count+1) _ _ _ _ _ (iy rfl ?_)
    all_goals (dsimp only at *;simp only[Bool.true_or];try ((split <;> try split) <;> first|rfl|(omega)|(rw[decide_eq_true (by omega)])|(rw[decide_eq_false (by omega)])))
   | true=>
    repeat' first|(apply La (m:=min x 99);rfl;rfl;first|exact hm|exact hm2)|apply Ke|apply aj|apply Kf|apply Kg|apply Kn|apply Kl|apply bn|(apply Kj;rfl)|(apply Kk;rfl)|(apply KB;rfl)|(apply KD;rfl)|(apply KS;rfl)|(apply Ks;rfl;rfl)|(apply Kp;rfl;rfl)|(apply Kq;rfl;rfl)|(apply KC;rfl;rfl;omega)|(apply KF;rfl;rfl;rfl)|(apply Kt;rfl;rfl;rfl)|(apply Kd;rfl;rfl)|(apply Kh;rfl;rfl)|(intro _;omega)|intro _
    all_goals try omega
    all_goals refine⟨_,_,_,_,rfl,rfl,?_⟩
    all_goals rw[eR rfl (by simp only[ab.put,List.length_set];exact Nat.le_refl _)]
    all_goals refine h' (IntKind.i64.wrap (n+IntKind.i64.wrap (min x 99*unit))) _ _ (IntKind.i64.wrap (unit*60)) (count+1) _ _ _ _ _ (iy rfl ?_)
    all_goals (dsimp only at *;simp only[Bool.true_or];try ((split <;> try split) <;> first|rfl|(omega)|(rw[decide_eq_true (by omega)])|(rw[decide_eq_false (by omega)])))
 | true=>
  cases dp with
  | false=>
   cases right with
   | false=>
    repeat' first|(apply La (m:=min x 99);rfl;rfl;first|exact hm|exact hm2)|apply Ke|apply aj|apply Kf|apply Kg|apply Kn|apply Kl|apply bn|(apply Kj;rfl)|(apply Kk;rfl)|(apply Ky;rfl)|(apply Kv;rfl)|(apply KB;rfl)|(apply Kz;rfl;rfl)|(apply Ku;rfl;rfl)|(apply Ks;rfl;rfl)|(apply Kp;rfl;rfl)|(apply Kq;rfl;rfl)|(apply KC;rfl;rfl;omega)|(apply KF;rfl;rfl;rfl)|(apply Kt;rfl;rfl;rfl)|(apply Kd;rfl;rfl)|(apply Kh;rfl;rfl)|(intro _;omega)|intro _
    all_goals try omega
    all_goals refine⟨_,_,_,_,rfl,rfl,?_⟩
    all_goals rw[eR rfl (by simp only[ab.put,List.length_set];exact Nat.le_refl _)]
    all_goals refine h' (IntKind.i64.wrap (n+IntKind.i64.wrap (min x 99*unit))) _ _ (IntKind.i64.wrap (unit*60)) (count+1) _ _ _ _ _ (iy rfl ?_)
    all_goals (dsimp only at *;simp only[Bool.false_or];try ((split <;> try split) <;> first|rfl|(omega)|(rw[decide_eq_true (by omega)])|(rw[decide_eq_false (by omega)])))
   | true=>
    repeat' first|(apply La (m:=min x 99);rfl;rfl;first|exact hm|exact hm2)|apply Ke|apply aj|apply Kf|apply Kg|apply Kn|apply Kl|apply bn|(apply Kj;rfl)|(apply Kk;rfl)|(apply Ky;rfl)|(apply Kv;rfl)|(apply KB;rfl)|(apply Kz;rfl;rfl)|(apply Ku;rfl;rfl)|(apply Ks;rfl;rfl)|(apply Kp;rfl;rfl)|(apply Kq;rfl;rfl)|(apply KC;rfl;rfl;omega)|(apply KF;rfl;rfl;rfl)|(apply Kt;rfl;rfl;rfl)|(apply Kd;rfl;rfl)|(apply Kh;rfl;rfl)|(intro _;omega)|intro _
    all_goals try omega
    all_goals refine⟨_,_,_,_,rfl,rfl,?_⟩
    all_goals rw[eR rfl (by simp only[ab.put,List.length_set];exact Nat.le_refl _)]
    all_goals refine h' (IntKind.i64.wrap (n+IntKind.i64.wrap (min x 99*unit))) _ _ (IntKind.i64.wrap (unit*60)) (count+1) _ _ _ _ _ (iy rfl ?_)
    all_goals (dsimp only at *;simp only[Bool.false_or];try ((split <;> try split) <;> first|rfl|(omega)|(rw[decide_eq_true (by omega)])|(rw[decide_eq_false (by omega)])))
  | true=>
   cases right with
   | false=>
    repeat' first|(apply La (m:=min x 99);rfl;rfl;first|exact hm|exact hm2)|apply Ke|apply aj|apply Kf|apply Kg|apply Kn|apply Kl|apply bn|(apply Kj;rfl)|(apply Kk;rfl)|(apply Ky;rfl)|(apply KD;rfl)|(apply KS;rfl)|(apply Ks;rfl;rfl)|(apply Kp;rfl;rfl)|(apply KC;rfl;rfl;omega)|(apply KF;rfl;rfl;rfl)|(apply Kt;rfl;rfl;rfl)|(apply Kd;rfl;rfl)|(apply Kh;rfl;rfl)|(intro _;omega)|intro _
    all_goals try omega
    all_goals refine⟨_,_,_,_,rfl,rfl,?_⟩
    all_goals rw[eR rfl (by simp only[ab.put,List.length_set];exact Nat.le_refl _)]
    all_goals refine h' (IntKind.i64.wrap (n+IntKind.i64.wrap (min x 99*unit))) _ _ (IntKind.i64.wrap (unit*60)) (count+1) _ _ _ _ _ (iy rfl ?_)
    all_goals (dsimp only at *;simp only[Bool.true_or];try ((split <;> try split) <;> first|rfl|(omega)|(rw[decide_eq_true (by omega)])|(rw[decide_eq_false (by omega)])))
   | true=>
    repeat' first|(apply La (m:=min x 99);rfl;rfl;first|exact hm|exact hm2)|apply Ke|apply aj|apply Kf|apply Kg|apply Kn|apply Kl|apply bn|(apply Kj;rfl)|(apply Kk;rfl)|(apply Ky;rfl)|(apply KD;rfl)|(apply KS;rfl)|(apply Ks;rfl;rfl)|(apply Kp;rfl;rfl)|(apply KC;rfl;rfl;omega)|(apply KF;rfl;rfl;rfl)|(apply Kt;rfl;rfl;rfl)|(apply Kd;rfl;rfl)|(apply Kh;rfl;rfl)|(intro _;omega)|intro _
    all_goals try omega
    all_goals refine⟨_,_,_,_,rfl,rfl,?_⟩
    all_goals rw[eR rfl (by simp only[ab.put,List.length_set];exact Nat.le_refl _)]
    all_goals refine h' (IntKind.i64.wrap (n+IntKind.i64.wrap (min x 99*unit))) _ _ (IntKind.i64.wrap (unit*60)) (count+1) _ _ _ _ _ (iy rfl ?_)
    all_goals (dsimp only at *;simp only[Bool.true_or];try ((split <;> try split) <;> first|rfl|(omega)|(rw[decide_eq_true (by omega)])|(rw[decide_eq_false (by omega)])))
structure kn (M:au):Prop where
 ft:M.FT=FT
 jl:∀k v r h,M.ext 36 [dx k v r] h=some ⟨.iV (bx k v r),h,[]⟩
 yj:∀v h l,ij h v=some l->l.length<1000->M.ext 96 [v] h=some ⟨.iV (cM l),h,[]⟩
 yk:∀(t:Bool) (e:Int) h,M.ext 97 [.bool t,.iV e] h=some ⟨.iV (if t then e else 0),h,[]⟩
 lF:∀(s:ae) b h,s.length<1000000->M.ext 163 [.str s,.str [b]] h=some ⟨eW b s,h,[]⟩
 ix:∀(s:ae) h,s.length<1000000->M.ext 121 [.str s] h=some ⟨.aq [.iV (bw s),.bool (decide (0<=bE s))],h,[]⟩
 yl:∀(s:ae) h,s.length<1000000->M.ext 187 [.str s] h=some ⟨.aq [.iV (bw s),.bool (decide (0<=bB s))],h,[]⟩
 lG:∀(s:ae) (lo hi:Nat) h,s.length<1000000->lo<=4->hi<=4->M.ext 188 [.str s,.iV lo,.iV hi] h=some ⟨.aq [.iV (eB s hi),.bool (decide (0<=bV s lo hi))],h,[]⟩
 yn:∀(s:ae) h,s.length<100000->M.ext 229 [.str s,.str [58]] h=some ⟨.vs (strs (aU 58 s)) (aU 58 s).length none,h,[]⟩
 yp:∀ars h,M.ext 189 ars h=none
 yq:∀ars h,M.ext 230 ars h=none
abbrev rO (u1 u2 u3 u4 u5 u6:AV):List AV:=[.fn (.yield 8) [] [],.ptr 6 0,.ptr 9 0,.ptr 10 0,u1,u2,u3,u4,u5,u6]
abbrev RB (l:List ae)(st:LoopState)(pend:Option Ex)(u1 u2 u3 u4 u5 u6:AV):ab:=
 [some (.cells [.fn (.yield 8) [] []] 231),some (.cells [.vs (strs l) l.length none] 146),some (.cells [.vs (strs l) l.length none] 146),some .cO,some (.loop st pend (rO u1 u2 u3 u4 u5 u6) [(.p 8),(.p 9)] yg yh)]
theorem IG (L:Nat)(w:ae):bR L 0 w=(decide (0<=bE w) && decide (L<=3)):=rfl
theorem IH {L i:Nat}(hi:0<i)(w:ae):bR L i w=(decide (0<=bB w) && decide (w.length=2) && decide (L<=3)):=by
 unfold bR bL;rw[if_neg (by omega)];by_cases h2:w.length=2
 . rw[if_pos h2,decide_eq_true h2,Bool.and_true]
 . rw[if_neg h2,decide_eq_false h2,Bool.and_false];rfl
theorem WO.II (C:kn M){v:Nat}{g:an}{args:List an}{ls:List aw}{pe0:List AV}{lo:List (Nat×AV)}{df wr:List Nat}{Q:ah->Prop}{s f b:ae}{fd:Bool}{t:dC}{a1 a2 a3 a4 u1 u2 u3 u4 u5 u6:AV}{l:List ae}{i:Nat}{w:ae}
 (hc:0<=t.count/\t.count<1000000) (hw:w.length<1000000) (hl:l.length<1000000) (hi:i<1000000)
 (hf:(St.mk pe0 lo (HA s f b fd t .ready none a1 a2 a3 a4 (RB l .ready none u1 u2 u3 u4 u5 u6)) df).aa g=some (.fn (.yield 13) [] [])) (ha:(St.mk pe0 lo (HA s f b fd t .ready none a1 a2 a3 a4 (RB l .ready none u1 u2 u3 u4 u5 u6)) df).bp args=some [.iV i,.str w])
 (h:∀a1 a2 a3 a4 u1 u2 u3 u4 u5 u6 wr',WO M ls ⟨⟨pe0,(v,.bool true)::lo,HA s f b fd (stepT t (bw w) (bR l.length i w)) .ready none a1 a2 a3 a4 (RB l .ready none u1 u2 u3 u4 u5 u6),df⟩,wr'⟩ Q) :
 WO M (⟨.l v,.call g args,none⟩::ls) ⟨⟨pe0,lo,HA s f b fd t .ready none a1 a2 a3 a4 (RB l .ready none u1 u2 u3 u4 u5 u6),df⟩,wr⟩ Q:=by
 have h':∀right (a1 a2 a3 a4 u1 u2 u3 u4 u5 u6:AV) wr',right=bR l.length i w->WO M ls ⟨⟨pe0,(v,.bool true)::lo,HA s f b fd (stepT t (bw w) right) .ready none a1 a2 a3 a4 (RB l .ready none u1 u2 u3 u4 u5 u6),df⟩,wr'⟩ Q:=
  fun right a1 a2 a3 a4 u1 u2 u3 u4 u5 u6 wr' e=>by rw[e];exact h _ _ _ _ _ _ _ _ _ _ _
 have hx:=rD w;have q121:=fun h=>C.ix w h hw
 have q187:=fun h=>C.yl w h hw
 have ePut:∀a1 a2 a3 a4 u1 u2 u3 u4 u5 u6 (t:dC),ab.put (HA s f b fd t .ready none a1 a2 a3 a4 (RB l .ready none u1 u2 u3 u4 u5 u6)) 13 (some (.loop .busy none (rO u1 u2 u3 u4 u5 u6) [(.p 8),(.p 9)] yg yh))=HA s f b fd t .ready none a1 a2 a3 a4 (RB l .busy none u1 u2 u3 u4 u5 u6):=fun _ _ _ _ _ _ _ _ _ _ _=>rfl
 refine WO.ur (s0:=⟨rO u1 u2 u3 u4 (.iV i) (.str w),[],HA s f b fd t .ready none a1 a2 a3 a4 (RB l .ready none u1 u2 u3 u4 u5 u6),[]⟩) hf ha rfl rfl ?_;clear h hf ha;repeat' first|apply Ke|apply aj|apply Kf|apply Kg|(apply Kh;rfl;rfl)
 refine uu rfl ?_;rw[ePut];by_cases hi0:i=0
 . subst hi0;rw[IG]at h';rw[show ((0:Nat):Int)=0 from rfl];cases hD:decide (0<=bE w) with
   | false=>
    rw[hD]at q121;repeat' first|(refine WO.km (t:=t) hc hx rfl rfl (fun _ _ _ _ _=>?_))|apply Ke|apply aj|apply Kf|apply Kg|apply Kn|apply Kl|apply bn|(apply Kk;rfl)|(apply KB;rfl)|(apply Ku;rfl;rfl)|(apply Kq;rfl;rfl)|(apply Km;rfl;rfl;first|exact q121 _|exact q187 _)|(apply KF;rfl;rfl;rfl)|(apply Kd;rfl;rfl)|(apply Kh;rfl;rfl)|(intro _;omega)|intro _
    all_goals try omega
    all_goals refine⟨_,_,_,_,rfl,rfl,?_⟩
    all_goals rw[eR rfl (by simp only[ab.put,List.length_set];exact Nat.le_refl _)]
    all_goals refine h' _ _ _ _ _ _ _ _ _ _ _ _ ?_
    all_goals (rw[hD];rfl)
   | true=>
    rw[hD]at q121;repeat' first|(refine WO.km (t:=t) hc hx rfl rfl (fun _ _ _ _ _=>?_))|apply Ke|apply aj|apply Kf|apply Kg|apply Kn|apply Kl|apply bn|(apply Kk;rfl)|(apply Ky;rfl)|(apply Le;rfl;rfl)|(apply Ku;rfl;rfl)|(apply Kp;rfl;rfl)|(apply Km;rfl;rfl;first|exact q121 _|exact q187 _)|(apply KF;rfl;rfl;rfl)|(apply Kd;rfl;rfl)|(apply Kh;rfl;rfl)|(intro _;omega)|intro _
    all_goals try omega
    all_goals refine⟨_,_,_,_,rfl,rfl,?_⟩
    all_goals rw[eR rfl (by simp only[ab.put,List.length_set];exact Nat.le_refl _)]
    all_goals refine h' _ _ _ _ _ _ _ _ _ _ _ _ ?_
    all_goals (first|rfl|(rw[hD,Bool.true_and];first|exact(decide_eq_true (by omega)).symm|exact(decide_eq_false (by omega)).symm))
 . rw[IH (by omega)]at h';cases hF:decide (0<=bE w) <;> rw[hF]at q121;all_goals cases hD:decide (0<=bB w) <;> rw[hD]at q187
   . repeat' first|(refine WO.km (t:=t) hc hx rfl rfl (fun _ _ _ _ _=>?_))|apply Ke|apply aj|apply Kf|apply Kg|apply Kn|apply Kl|apply bn|(apply Kj;rfl)|(apply Kk;rfl)|(apply KB;rfl)|(apply Ku;rfl;rfl)|(apply Kq;rfl;rfl)|(apply Km;rfl;rfl;first|exact q121 _|exact q187 _)|(apply KF;rfl;rfl;rfl)|(apply Kd;rfl;rfl)|(apply Kh;rfl;rfl)|(intro _;omega)|intro _
     all_goals try omega
     all_goals refine⟨_,_,_,_,rfl,rfl,?_⟩
     all_goals rw[eR rfl (by simp only[ab.put,List.length_set];exact Nat.le_refl _)]
     all_goals refine h' _ _ _ _ _ _ _ _ _ _ _ _ ?_
     all_goals (first|rfl|(rw[hD,Bool.true_and];first|(rw[decide_eq_true (show w.length=2 by omega),Bool.true_and];first|exact(decide_eq_true (by omega)).symm|exact(decide_eq_false (by omega)).symm)|(rw[decide_eq_false (show ¬w.length=2 by omega)];rfl))|(rw[hD];rfl))
   . repeat' first|(refine WO.km (t:=t) hc hx rfl rfl (fun _ _ _ _ _=>?_))|apply Ke|apply aj|apply Kf|apply Kg|apply Kn|apply Kl|apply bn|(apply Kj;rfl)|(apply Kk;rfl)|(apply Ky;rfl)|(apply KB;rfl)|(apply Le;rfl;rfl)|(apply Ku;rfl;rfl)|(apply Ks;rfl;rfl)|(apply Kp;rfl;rfl)|(apply Kq;rfl;rfl)|(apply Km;rfl;rfl;first|exact q121 _|exact q187 _)|(apply KF;rfl;rfl;rfl)|(apply Kd;rfl;rfl)|(apply Kh;rfl;rfl)|(intro _;omega)|intro _
     all_goals try omega
     all_goals refine⟨_,_,_,_,rfl,rfl,?_⟩
     all_goals rw[eR rfl (by simp only[ab.put,List.length_set];exact Nat.le_refl _)]
     all_goals refine h' _ _ _ _ _ _ _ _ _ _ _ _ ?_
     all_goals (first|rfl|(rw[hD,Bool.true_and];first|(rw[decide_eq_true (show w.length=2 by omega),Bool.true_and];first|exact(decide_eq_true (by omega)).symm|exact(decide_eq_false (by omega)).symm)|(rw[decide_eq_false (show ¬w.length=2 by omega)];rfl))|(rw[hD];rfl))
   . repeat' first|(refine WO.km (t:=t) hc hx rfl rfl (fun _ _ _ _ _=>?_))|apply Ke|apply aj|apply Kf|apply Kg|apply Kn|apply Kl|apply bn|(apply Kj;rfl)|(apply Kk;rfl)|(apply KB;rfl)|(apply Ku;rfl;rfl)|(apply Kq;rfl;rfl)|(apply Km;rfl;rfl;first|exact q121 _|exact q187 _)|(apply KF;rfl;rfl;rfl)|(apply Kd;rfl;rfl)|(apply Kh;rfl;rfl)|(intro _;omega)|intro _
     all_goals try omega
     all_goals refine⟨_,_,_,_,rfl,rfl,?_⟩
     all_goals rw[eR rfl (by simp only[ab.put,List.length_set];exact Nat.le_refl _)]
     all_goals refine h' _ _ _ _ _ _ _ _ _ _ _ _ ?_
     all_goals (first|rfl|(rw[hD,Bool.true_and];first|(rw[decide_eq_true (show w.length=2 by omega),Bool.true_and];first|exact(decide_eq_true (by omega)).symm|exact(decide_eq_false (by omega)).symm)|(rw[decide_eq_false (show ¬w.length=2 by omega)];rfl))|(rw[hD];rfl))
   . repeat' first|(refine WO.km (t:=t) hc hx rfl rfl (fun _ _ _ _ _=>?_))|apply Ke|apply aj|apply Kf|apply Kg|apply Kn|apply Kl|apply bn|(apply Kj;rfl)|(apply Kk;rfl)|(apply Ky;rfl)|(apply KB;rfl)|(apply Le;rfl;rfl)|(apply Ku;rfl;rfl)|(apply Ks;rfl;rfl)|(apply Kp;rfl;rfl)|(apply Kq;rfl;rfl)|(apply Km;rfl;rfl;first|exact q121 _|exact q187 _)|(apply KF;rfl;rfl;rfl)|(apply Kd;rfl;rfl)|(apply Kh;rfl;rfl)|(intro _;omega)|intro _
     all_goals try omega
     all_goals refine⟨_,_,_,_,rfl,rfl,?_⟩
     all_goals rw[eR rfl (by simp only[ab.put,List.length_set];exact Nat.le_refl _)]
     all_goals refine h' _ _ _ _ _ _ _ _ _ _ _ _ ?_
     all_goals (first|rfl|(rw[hD,Bool.true_and];first|(rw[decide_eq_true (show w.length=2 by omega),Bool.true_and];first|exact(decide_eq_true (by omega)).symm|exact(decide_eq_false (by omega)).symm)|(rw[decide_eq_false (show ¬w.length=2 by omega)];rfl))|(rw[hD];rfl))
theorem IJ (hft:M.FT=FT)(f:ae)(hp:ab):aJ M 189 [.str f] hp ⟨.fn (.func 228) [] [.ptr hp.length 0],hp++[some (.cells [.str f] 9)],[]⟩:=by
 refine lf (by rw[hft];exact It) (by simp) ?_;unfold xV;simp only[enter];repeat' first|apply Ke|apply aj|apply Kf|apply Kg|apply Ki|(apply Ko;rfl;rfl;rfl)|(apply Kd;rfl;rfl)|(apply Kh;rfl;rfl)
 refine⟨.inr rfl,rfl,_,rfl,?_⟩;simp only[cz];rw[if_neg (by simp[dh,AV.top,aY];omega)];rfl
theorem IK (hft:M.FT=FT)(v:AV)(l:List ae)(hv:v = .vs (strs l) l.length cap)(hp:ab):aJ M 230 [v] hp ⟨.fn (.func 269) [] [.ptr hp.length 0],hp++[some (.cells [v] 146)],[]⟩:=by
 subst hv;refine lf (by rw[hft];exact Ir) (by simp) ?_;unfold xT;simp only[enter];repeat' first|apply Ke|apply aj|apply Kf|apply Kg|apply Ki|(apply Ko;rfl;rfl;rfl)|(apply Kd;rfl;rfl)|(apply Kh;rfl;rfl)
 refine⟨.inr rfl,rfl,_,rfl,?_⟩;simp only[cz];rw[if_neg (by simp[dh,AV.top,aY];omega)];rfl
def yr (s f b:ae)(fd:Bool)(t:dC)(l:List ae)(r:HR):Prop:=∃a1 a2 a3 a4 u1 u2 u3 u4 u5 u6,r.h=HA s f b fd t .ready none a1 a2 a3 a4 (RB l .ready none u1 u2 u3 u4 u5 u6)
theorem IL (t:dC)(x:Int)(r:Bool):(stepT t x r).count=t.count+1:=rfl
theorem IM {l:List ae}{n i:Nat}(h:∀s∈l,s.length<n)(hi:i<l.length):(l[i]!).length<n:=by
 rw[getElem!_pos l i hi];exact h _ (List.getElem_mem hi)
theorem IN (C:kn M)(s f b:ae)(fd:Bool)(t:dC)(l:List ae)(ht:0<=t.count/\t.count+l.length<1000000)(hl:l.length<1000000)(hw:∀w∈l,w.length<1000000)(a1 a2 a3 a4 u1 u2 u3 u4 u5 u6:AV) :
 im M 269 [.fn (.yield 13) [] [],.ptr 11 0] (HA s f b fd t .ready none a1 a2 a3 a4 (RB l .ready none u1 u2 u3 u4 u5 u6)) (yr s f b fd (fK l l.length t) l):=by
 refine im.pT (by rw[C.ft];exact Is) (by simp) ?_;obtain⟨H,hH⟩:∃H,H=HA s f b fd t .ready none a1 a2 a3 a4 (RB l .ready none u1 u2 u3 u4 u5 u6):=⟨_,rfl⟩;have hHl:H.length=14:=by rw[hH];rfl
 unfold xU;simp only[enter];rw[show (HA s f b fd t .ready none a1 a2 a3 a4 (RB l .ready none u1 u2 u3 u4 u5 u6)).length=14 from rfl];repeat' first|apply Ke|apply aj|apply Kf|apply Kg|apply Kn|(apply KU;rfl;rfl;omega)|(apply KF;rfl;rfl;rfl)|(apply Kd;rfl;rfl)|(apply Kh;rfl;rfl)
 have loop:∀(n:Nat) (t':dC) a1 a2 a3 a4 u1 u2 u3 u4 u5 u6 lo wr,n<=l.length->0<=t'.count/\t'.count+n<1000000->fK l l.length t=fK l n t' ->
  W M (.loop nX) ⟨⟨[.fn (.yield 13) [] [],.ptr 11 0,.iV ((n:Int)-1)],lo,HA s f b fd t' .ready none a1 a2 a3 a4 (RB l .ready none u1 u2 u3 u4 u5 u6),[]⟩,wr⟩
   (BQ 0 fun e s'=>(e = .normal\/e = .ret)/\∃s'',eT s'.s.bC s'=some s''/\∃vs,dX s''.s []=some vs/\yr s f b fd (fK l l.length t) l (cz (dh vs) 14 s'')):=by
  intro n;induction n with
  | zero=>
   intro t' a1 a2 a3 a4 u1 u2 u3 u4 u5 u6 lo wr hn hc he;refine W.loop ?_;unfold nX;repeat' first|apply Ke|apply aj|apply Kf|apply Kg|apply Kx|apply bX|apply cg|apply cB|(apply Kk;rfl)|(apply KJ;rfl;rfl)|(apply Kd;rfl;rfl)|(intro _;omega)|intro _
   refine⟨.inl rfl,_,rfl,_,rfl,?_⟩;rw[eR rfl (by exact Nat.le_refl 14),he];exact⟨_,_,_,_,_,_,_,_,_,_,rfl⟩
  | succ n ih=>
   intro t' a1 a2 a3 a4 u1 u2 u3 u4 u5 u6 lo wr hn hc he;have hs:=IM hw (i:=n) (by omega);have eI:(((n+1:Nat):Int)-1)=n:=by omega
   rw[eI];refine W.loop ?_;unfold nX;repeat' first|(refine WO.II C (t:=t') (l:=l) (i:=n) (w:=l[n]!) ⟨by omega,by omega⟩ hs hl (by omega) rfl rfl (fun _ _ _ _ _ _ _ _ _ _ _=>?_))|apply Ke|apply aj|apply Kf|apply Kg|apply Kn|apply Kl|apply bn|(apply Kj;rfl)|(apply Kk;rfl)|(apply KJ;rfl;rfl)|(apply KU;rfl;rfl;omega)|(apply KF;rfl;rfl;rfl)|(apply Lo;rfl;rfl;omega)|(apply Lp;rfl;exact fun _=>rfl;(first|omega|(simp only[List.length_set];omega)|(simp;omega));decide;rfl;case ia=>infer_instance)|(apply Kd;rfl;rfl)|(apply Kh;rfl;rfl)|(intro _;omega)|intro _
   exact iQ (ih _ _ _ _ _ _ _ _ _ _ _ _ _ (by omega) (by rw[IL];omega) he)
 exact loop l.length t _ _ _ _ _ _ _ _ _ _ _ _ (Nat.le_refl _) ht rfl
theorem IP {v:AV}{n:Nat}{s:ah}{P:ab->Prop}(h1:P (s.s.hp.take n))(h2:P s.s.hp):P (cz v n s).h:=by
 unfold cz;split <;> assumption
def yt (s f b:ae)(fd:Bool)(t:dC)(h:ab):Prop:=∃a1 a2 a3 a4,h=HA s f b fd t .ready none a1 a2 a3 a4 []\/∃x1 x2 x3 x4 x5,h=HA s f b fd t .ready none a1 a2 a3 a4 [x1,x2,x3,x4,x5]
theorem nY (c:UInt8):∀(s:ae),∀w∈aU c s,w.length<=s.length
 | [],w,h=>by
  rw[aU,List.mem_singleton]at h;subst h;exact Nat.le_refl _
 | a::s,w,h=>by
  rw[aU]at h;split at h
  . rcases List.mem_cons.1 h with rfl|h
    . exact Nat.zero_le _
    . have:=nY c s w h;simp;omega
  . split at h
    . rw[List.mem_singleton]at h;subst h;simp
    . rename_i x l hx;rcases List.mem_cons.1 h with rfl|h
      . have:=nY c s x (by rw[hx];simp);simp;omega
      . have:=nY c s w (by rw[hx];simp[h]);simp;omega
theorem IQ (c:UInt8)(s:ae):(aU c s).length<=s.length+1:=by
 rw[re];have:=rf c s;omega
theorem IS (C:kn M)(s f b:ae)(fd:Bool)(t:dC)(ht:0<=t.count/\t.count<1000)(hl:f.length<100000)(a1 a2 a3 a4:AV) :
 im M 228 [.fn (.yield 8) [] [],.ptr 6 0] (HA s f b fd t .ready none a1 a2 a3 a4 []) (fun r=>yt s f b fd (fK (aU 58 f) (aU 58 f).length t) r.h):=by
 have hle:=IQ 58 f;have q229:=fun h=>C.yn f h hl
 have q230:=fun h=>CT.run (fi:=[]) (ca:=[]) (ars:=[.vs (strs (aU 58 f)) (aU 58 f).length none]) (C.yq _ _) (IK (M:=M) C.ft (.vs (strs (aU 58 f)) (aU 58 f).length none) (aU 58 f) rfl h)
 refine im.pT (by rw[C.ft];exact Iu) (by simp) ?_;unfold xW;simp only[enter];rw[show (HA s f b fd t .ready none a1 a2 a3 a4 []).length=9 from rfl];repeat' first|(apply KF;rfl;rfl;rfl)|(apply KX;rfl;rfl;rfl;exact⟨rfl,by decide,rfl⟩;rfl)|apply Ke|apply aj|apply Kf|apply Kg|apply Kn|(apply KO;rfl;rfl;first|exact q230 _)|(apply Km;rfl;rfl;first|exact q229 _)|(apply Ko;rfl;rfl;rfl)
 refine W.uq (g:=269) (fi:=[]) (ca:=[.ptr 11 0]) rfl ?_;obtain⟨r,hr,hK⟩:=(IN C s f b fd t (aU 58 f) ⟨ht.1,by omega⟩ (by omega) (fun w hw=>by have:=nY 58 f w hw;omega) a1 a2 a3 a4 aW aW aW aW aW aW).out;refine⟨r,hr,?_⟩;obtain⟨b1,b2,b3,b4,u1,u2,u3,u4,u5,u6,hh⟩:=hK;rw[hh];refine⟨_,_,_,_,_,_,rfl,by simp,?_⟩;repeat' first|apply bn
 refine⟨.inl rfl,_,rfl,_,rfl,?_⟩;refine IP (P:=fun h=>yt s f b fd (fK (aU 58 f) (aU 58 f).length t) h) ⟨_,_,_,_,.inl rfl⟩ ⟨_,_,_,_,.inr ⟨_,_,_,_,_,rfl⟩⟩
theorem IT (K:HR->Prop){v:AV}{s:ah}(hv:v.top=0)(hk:K ⟨v,[],[]⟩):K (cz v ([]:ab).length s):=by
 rw[uv (by rw[hv];exact Nat.zero_le _)]
 . have e1:s.s.hp.take ([]:ab).length=[]:=rfl;have e2:s.wr.filter (· < ([]:ab).length)=[]:=by
    rw[List.filter_eq_nil_iff];intro x _;simp
   rw[e1,e2];exact hk
 . simp only[tight,List.all_eq_true];intro x hx;split <;> simp
theorem iz {K:ab}{a b c:Int}{e:TypeId}{cap:Option Nat}:ij (K++[some (.cells [.iV a,.iV b,.iV c] e)]) (.sl K.length 0 3 1 cap)=some [a,b,c]:=by
 have h:ab.at (K++[some (.cells [.iV a,.iV b,.iV c] e)]) K.length=some (.cells [.iV a,.iV b,.iV c] e):=dt;simp[ij,jS,h,cut,ld]
theorem IU {K:ab}{pe:List AV}{lo:List (Nat×AV)}{df wr:List Nat}{d:Nat}(h:K.at d=some .cO):eT [d] ⟨⟨pe,lo,K,df⟩,wr⟩=some ⟨⟨pe,lo,K.put d none,df⟩,d::wr⟩:=by
 simp only[eT,h]
theorem ek {hp:ab}{bu bv:Nat}{Y:Option aK}(hne:bu≠bv):(hp.put bu Y).at bv=hp.at bv:=by
 simp[ab.at,ab.put,hne]
theorem IV {K:ab}{pe:List AV}{lo:List (Nat×AV)}{df:List Nat}{k r:ae}{v e:Int}{ty:TypeId}(h:K.at 0=some (.cells [.str k,.iV v,.str r] ty))(h1:pe[1]? = some (.ptr 0 0))(h2:pe[2]? = some (.iV e)) :
 dX ⟨pe,lo,K,df⟩ [.cell 3 true (.p 1),.var (.p 2)]=some [dx k v r,.iV e]:=by
 have e1:(St.mk pe lo K df).aa (.p 1)=some (.ptr 0 0):=h1;have e2:(St.mk pe lo K df).aa (.p 2)=some (.iV e):=h2;simp only[dX,e1,e2,Option.bind_some,dO,h];rfl
theorem yu (C:kn M){K:ab}{s a3 a4 u1 u2 u3 u4:AV}{fd:Bool}{t:dC}{lo:List (Nat×AV)}{wr:List Nat}(k0:K.at 0=some (.cells [.str [],.iV 0,.str []] 49))(k1:K.at 1=some (.cells [.iV t.n] 3))(k2:K.at 2=some (.cells [.bool t.cG] 4))(k3:K.at 3=some (.cells [.bool t.dp] 4))(k7:K.at 7=some .cO) :
 W M t124 ⟨⟨[s,.ptr 0 0,.iV 0,a3,a4,.bool fd,.ptr 1 0,.ptr 2 0,.ptr 3 0,.ptr 4 0,.ptr 5 0,u1,u2,aW,aW,u3,u4],lo,K,[7]⟩,wr⟩ fun e s'=>(e = .normal\/e = .ret)/\∃s'',eT s'.s.bC s'=some s''/\∃vs,dX s''.s [.cell 3 true (.p 1),.var (.p 2)]=some vs/\cz (dh vs) ([]:ab).length s''=⟨(eO fd t).av,[],[]⟩:=by
 obtain⟨n,cG,dp,unit,count⟩:=t;have l0:=na k0;have l7:=na k7;have q36:=fun h=>C.jl bm n [] h
 have q97:=C.yk;have q96:∀x y z v h,ij h v=some [x,y,z]->M.ext 96 [v] h=some ⟨.iV (cM [x,y,z]),h,[]⟩:=fun x y z v h e=>C.yj v h _ e (by simp)
 have tp:cM [if !fd || !cG then 25 else 0,if dp then 3 else 0,bx bm n []]≠0->eO fd ⟨n,cG,dp,unit,count⟩=dN (cM [if !fd || !cG then 25 else 0,if dp then 3 else 0,bx bm n []]):=fun h=>if_pos h
 have tn:cM [if !fd || !cG then 25 else 0,if dp then 3 else 0,bx bm n []]=0->eO fd ⟨n,cG,dp,unit,count⟩=⟨bm,n,[],0⟩:=fun h=>if_neg (fun h'=>h' h)
 have fin:∀(p:PR) (pe:List AV) (H:ab) lo wr,eO fd ⟨n,cG,dp,unit,count⟩=p->H.at 0=some (.cells [.str p.k,.iV p.v,.str p.r] 49)->H.at 7=some .cO->pe[1]? = some (.ptr 0 0)->pe[2]? = some (.iV p.e) ->
  ∃s'',eT [7] ⟨⟨pe,lo,H,[7]⟩,wr⟩=some s''/\∃vs,dX s''.s [.cell 3 true (.p 1),.var (.p 2)]=some vs/\cz (dh vs) ([]:ab).length s''=⟨(eO fd ⟨n,cG,dp,unit,count⟩).av,[],[]⟩:=fun p pe H lo wr e h0 h7 h1 h2=>
  ⟨_,IU h7,_,IV (by rw[ek (by decide)];exact h0) h1 h2,by rw[e];exact IT (fun r=>r=⟨p.av,[],[]⟩) rfl rfl⟩
 have b0:∀a b:Option aK,0<(K++[a]++[b]).length:=fun a b=>by simp
 unfold t124;cases fd <;> cases cG <;> cases dp
 . repeat' first|(apply KF;rfl;(first|exact k1|exact aG k2|exact aG k3|exact dt|exact aG dt);rfl)|(apply KX;rfl;rfl;exact aG (aG k0);exact⟨rfl,by decide,rfl⟩;rfl)|(apply Lh;rfl;rfl;exact⟨rfl,by decide,rfl⟩;rfl)|(apply KL;rfl;rfl;(first|(simp only[];rfl)|rfl);first|exact q97 _ _ _|exact q36 _|exact q96 _ _ _ _ _ iz)|apply Ke|apply aj|apply Kf|apply Kg|apply Ki|apply Kl|apply aF|apply KE|apply KH|(apply KR;rfl)|(apply KI;rfl)|(apply KK;rfl;rfl;(first|(simp only[nca];rfl)|rfl))|(apply KN;rfl)|(apply Kj;rfl)|(apply Kk;rfl)|(apply Kw;rfl;rfl)|(apply Kp;rfl;rfl)|(apply Kr;rfl;rfl;rfl)|(apply Ko;rfl;rfl;rfl)|(apply Kd;rfl;rfl)|(apply Kh;rfl;rfl)|(intro _;omega)|intro _
   all_goals refine⟨.inr rfl,?_⟩
   all_goals first
    | exact fin _ _ _ _ _ (tp (by assumption)) (dG (b0 _ _)) (by rw[ek (by decide)];exact aG (aG k7)) rfl rfl
    | exact fin _ _ _ _ _ (tn (by assumption)) (dG (b0 _ _)) (by rw[ek (by decide)];exact aG (aG k7)) rfl rfl
 . repeat' first|(apply KF;rfl;(first|exact k1|exact aG k2|exact aG k3|exact dt|exact aG dt);rfl)|(apply KX;rfl;rfl;exact aG (aG k0);exact⟨rfl,by decide,rfl⟩;rfl)|(apply Lh;rfl;rfl;exact⟨rfl,by decide,rfl⟩;rfl)|(apply KL;rfl;rfl;(first|(simp only[];rfl)|rfl);first|exact q97 _ _ _|exact q36 _|exact q96 _ _ _ _ _ iz)|apply Ke|apply aj|apply Kf|apply Kg|apply Ki|apply Kl|apply aF|apply KE|apply KH|(apply KR;rfl)|(apply KI;rfl)|(apply KK;rfl;rfl;(first|(simp only[nca];rfl)|rfl))|(apply KN;rfl)|(apply Kj;rfl)|(apply Kk;rfl)|(apply Kw;rfl;rfl)|(apply Kp;rfl;rfl)|(apply Kr;rfl;rfl;rfl)|(apply Ko;rfl;rfl;rfl)|(apply Kd;rfl;rfl)|(apply Kh;rfl;rfl)|(intro _;omega)|intro _
   all_goals refine⟨.inr rfl,?_⟩
   all_goals first
    | exact fin _ _ _ _ _ (tp (by assumption)) (dG (b0 _ _)) (by rw[ek (by decide)];exact aG (aG k7)) rfl rfl
    | exact fin _ _ _ _ _ (tn (by assumption)) (dG (b0 _ _)) (by rw[ek (by decide)];exact aG (aG k7)) rfl rfl
 . repeat' first|(apply KF;rfl;(first|exact k1|exact aG k2|exact aG k3|exact dt|exact aG dt);rfl)|(apply KX;rfl;rfl;exact aG (aG k0);exact⟨rfl,by decide,rfl⟩;rfl)|(apply Lh;rfl;rfl;exact⟨rfl,by decide,rfl⟩;rfl)|(apply KL;rfl;rfl;(first|(simp only[];rfl)|rfl);first|exact q97 _ _ _|exact q36 _|exact q96 _ _ _ _ _ iz)|apply Ke|apply aj|apply Kf|apply Kg|apply Ki|apply Kl|apply aF|apply KE|apply KH|(apply KR;rfl)|(apply KI;rfl)|(apply KK;rfl;rfl;(first|(simp only[nca];rfl)|rfl))|(apply KN;rfl)|(apply Kj;rfl)|(apply Kk;rfl)|(apply Kw;rfl;rfl)|(apply Kp;rfl;rfl)|(apply Kr;rfl;rfl;rfl)|(apply Ko;rfl;rfl;rfl)|(apply Kd;rfl;rfl)|(apply Kh;rfl;rfl)|(intro _;omega)|intro _
   all_goals refine⟨.inr rfl,?_⟩
   all_goals first
    | exact fin _ _ _ _ _ (tp (by assumption)) (dG (b0 _ _)) (by rw[ek (by decide)];exact aG (aG k7)) rfl rfl
    | exact fin _ _ _ _ _ (tn (by assumption)) (dG (b0 _ _)) (by rw[ek (by decide)];exact aG (aG k7)) rfl rfl
 . repeat' first|(apply KF;rfl;(first|exact k1|exact aG k2|exact aG k3|exact dt|exact aG dt);rfl)|(apply KX;rfl;rfl;exact aG (aG k0);exact⟨rfl,by decide,rfl⟩;rfl)|(apply Lh;rfl;rfl;exact⟨rfl,by decide,rfl⟩;rfl)|(apply KL;rfl;rfl;(first|(simp only[];rfl)|rfl);first|exact q97 _ _ _|exact q36 _|exact q96 _ _ _ _ _ iz)|apply Ke|apply aj|apply Kf|apply Kg|apply Ki|apply Kl|apply aF|apply KE|apply KH|(apply KR;rfl)|(apply KI;rfl)|(apply KK;rfl;rfl;(first|(simp only[nca];rfl)|rfl))|(apply KN;rfl)|(apply Kj;rfl)|(apply Kk;rfl)|(apply Kw;rfl;rfl)|(apply Kp;rfl;rfl)|(apply Kr;rfl;rfl;rfl)|(apply Ko;rfl;rfl;rfl)|(apply Kd;rfl;rfl)|(apply Kh;rfl;rfl)|(intro _;omega)|intro _
   all_goals refine⟨.inr rfl,?_⟩
   all_goals first
    | exact fin _ _ _ _ _ (tp (by assumption)) (dG (b0 _ _)) (by rw[ek (by decide)];exact aG (aG k7)) rfl rfl
    | exact fin _ _ _ _ _ (tn (by assumption)) (dG (b0 _ _)) (by rw[ek (by decide)];exact aG (aG k7)) rfl rfl
 . repeat' first|(apply KF;rfl;(first|exact k1|exact aG k2|exact aG k3|exact dt|exact aG dt);rfl)|(apply KX;rfl;rfl;exact aG (aG k0);exact⟨rfl,by decide,rfl⟩;rfl)|(apply Lh;rfl;rfl;exact⟨rfl,by decide,rfl⟩;rfl)|(apply KL;rfl;rfl;(first|(simp only[];rfl)|rfl);first|exact q97 _ _ _|exact q36 _|exact q96 _ _ _ _ _ iz)|apply Ke|apply aj|apply Kf|apply Kg|apply Ki|apply Kl|apply aF|apply KE|apply KH|(apply KQ;rfl)|(apply KI;rfl)|(apply KK;rfl;rfl;(first|(simp only[nca];rfl)|rfl))|(apply KN;rfl)|(apply Kj;rfl)|(apply Kk;rfl)|(apply Kw;rfl;rfl)|(apply Kq;rfl;rfl)|(apply Kr;rfl;rfl;rfl)|(apply Ko;rfl;rfl;rfl)|(apply Kd;rfl;rfl)|(apply Kh;rfl;rfl)|(intro _;omega)|intro _
   all_goals refine⟨.inr rfl,?_⟩
   all_goals first
    | exact fin _ _ _ _ _ (tp (by assumption)) (dG (b0 _ _)) (by rw[ek (by decide)];exact aG (aG k7)) rfl rfl
    | exact fin _ _ _ _ _ (tn (by assumption)) (dG (b0 _ _)) (by rw[ek (by decide)];exact aG (aG k7)) rfl rfl
 . repeat' first|(apply KF;rfl;(first|exact k1|exact aG k2|exact aG k3|exact dt|exact aG dt);rfl)|(apply KX;rfl;rfl;exact aG (aG k0);exact⟨rfl,by decide,rfl⟩;rfl)|(apply Lh;rfl;rfl;exact⟨rfl,by decide,rfl⟩;rfl)|(apply KL;rfl;rfl;(first|(simp only[];rfl)|rfl);first|exact q97 _ _ _|exact q36 _|exact q96 _ _ _ _ _ iz)|apply Ke|apply aj|apply Kf|apply Kg|apply Ki|apply Kl|apply aF|apply KE|apply KH|(apply KQ;rfl)|(apply KI;rfl)|(apply KK;rfl;rfl;(first|(simp only[nca];rfl)|rfl))|(apply KN;rfl)|(apply Kj;rfl)|(apply Kk;rfl)|(apply Kw;rfl;rfl)|(apply Kq;rfl;rfl)|(apply Kr;rfl;rfl;rfl)|(apply Ko;rfl;rfl;rfl)|(apply Kd;rfl;rfl)|(apply Kh;rfl;rfl)|(intro _;omega)|intro _
   all_goals refine⟨.inr rfl,?_⟩
   all_goals first
    | exact fin _ _ _ _ _ (tp (by assumption)) (dG (b0 _ _)) (by rw[ek (by decide)];exact aG (aG k7)) rfl rfl
    | exact fin _ _ _ _ _ (tn (by assumption)) (dG (b0 _ _)) (by rw[ek (by decide)];exact aG (aG k7)) rfl rfl
 . repeat' first|(apply KF;rfl;(first|exact k1|exact aG k2|exact aG k3|exact dt|exact aG dt);rfl)|(apply KX;rfl;rfl;exact aG (aG k0);exact⟨rfl,by decide,rfl⟩;rfl)|(apply Lh;rfl;rfl;exact⟨rfl,by decide,rfl⟩;rfl)|(apply KL;rfl;rfl;(first|(simp only[];rfl)|rfl);first|exact q97 _ _ _|exact q36 _|exact q96 _ _ _ _ _ iz)|apply Ke|apply aj|apply Kf|apply Kg|apply Ki|apply Kl|apply aF|apply KE|apply KH|(apply KQ;rfl)|(apply KI;rfl)|(apply KK;rfl;rfl;(first|(simp only[nca];rfl)|rfl))|(apply KN;rfl)|(apply Kj;rfl)|(apply Kk;rfl)|(apply Kw;rfl;rfl)|(apply Kq;rfl;rfl)|(apply Kr;rfl;rfl;rfl)|(apply Ko;rfl;rfl;rfl)|(apply Kd;rfl;rfl)|(apply Kh;rfl;rfl)|(intro _;omega)|intro _
   all_goals refine⟨.inr rfl,?_⟩
   all_goals first
    | exact fin _ _ _ _ _ (tp (by assumption)) (dG (b0 _ _)) (by rw[ek (by decide)];exact aG (aG k7)) rfl rfl
    | exact fin _ _ _ _ _ (tn (by assumption)) (dG (b0 _ _)) (by rw[ek (by decide)];exact aG (aG k7)) rfl rfl
 . repeat' first|(apply KF;rfl;(first|exact k1|exact aG k2|exact aG k3|exact dt|exact aG dt);rfl)|(apply KX;rfl;rfl;exact aG (aG k0);exact⟨rfl,by decide,rfl⟩;rfl)|(apply Lh;rfl;rfl;exact⟨rfl,by decide,rfl⟩;rfl)|(apply KL;rfl;rfl;(first|(simp only[];rfl)|rfl);first|exact q97 _ _ _|exact q36 _|exact q96 _ _ _ _ _ iz)|apply Ke|apply aj|apply Kf|apply Kg|apply Ki|apply Kl|apply aF|apply KE|apply KH|(apply KQ;rfl)|(apply KI;rfl)|(apply KK;rfl;rfl;(first|(simp only[nca];rfl)|rfl))|(apply KN;rfl)|(apply Kj;rfl)|(apply Kk;rfl)|(apply Kw;rfl;rfl)|(apply Kq;rfl;rfl)|(apply Kr;rfl;rfl;rfl)|(apply Ko;rfl;rfl;rfl)|(apply Kd;rfl;rfl)|(apply Kh;rfl;rfl)|(intro _;omega)|intro _
   all_goals refine⟨.inr rfl,?_⟩
   all_goals first
    | exact fin _ _ _ _ _ (tp (by assumption)) (dG (b0 _ _)) (by rw[ek (by decide)];exact aG (aG k7)) rfl rfl
    | exact fin _ _ _ _ _ (tn (by assumption)) (dG (b0 _ _)) (by rw[ek (by decide)];exact aG (aG k7)) rfl rfl
theorem IW (C:kn M)(s:ae)(hl:s.length<100000):aJ M 124 [.str s] [] ⟨(nV s).av,[],[]⟩:=by
 have hs:=xF (b:=46) s;have q163:=fun h=>C.lF s 46 h (by omega)
 unfold eW at q163;have q188:=fun h=>C.lG ((aN 46 s).2.getD []) 1 4 h (by omega) (by decide) (by decide)
 rw[show ((1:Nat):Int)=1 from rfl,show ((4:Nat):Int)=4 from rfl]at q188;have q189:=fun h=>CT.run (fi:=[]) (ca:=[]) (ars:=[.str (aN 46 s).1]) (C.yp _ _) (IJ (M:=M) C.ft (aN 46 s).1 h)
 have hL:=fun fd a1 a2 a3 a4=>IS C s (aN 46 s).1 ((aN 46 s).2.getD []) fd (kg ((aN 46 s).2.getD [])) ⟨Int.le_refl _,by show (0:Int)<1000;omega⟩ (by omega) a1 a2 a3 a4
 unfold nV;unfold kg at hL ⊢;generalize (aN 46 s).1=f at *
 generalize hb:(aN 46 s).2.getD []=b at *
 generalize (aN 46 s).2.isSome=fd at *
 generalize decide (0<=bV b 1 4)=D at *
 have:=im.pT (M:=M) (f:=124) (ars:=[.str s]) (h:=[]) (K:=fun r=>r=⟨(eO fd (fK (aU 58 f) (aU 58 f).length ⟨eB b 4,D,false,10000,0⟩)).av,[],[]⟩) (by rw[C.ft];exact Iv) (by simp) (by
  unfold xX;simp only[enter];repeat' first|(apply KX;rfl;rfl;rfl;exact⟨rfl,by decide,rfl⟩;rfl)|apply Ke|apply aj|apply Kf|apply Kg|apply Kn|(apply KO;rfl;rfl;first|exact q189 _)|(apply Km;rfl;rfl;first|exact q163 _|exact q188 _)|(apply Ko;rfl;rfl;rfl)|(apply Kd;rfl;rfl)|(apply Kh;rfl;rfl)
  refine W.uq (g:=228) (fi:=[]) (ca:=[.ptr 6 0]) rfl ?_;obtain⟨r,hr,hK⟩:=(hL fd aW aW aW aW).out;refine⟨r,hr,?_⟩;generalize fK (aU 58 f) (aU 58 f).length ⟨eB b 4,D,false,10000,0⟩=t at *
  obtain⟨a1,a2,a3,a4,hh⟩:=hK;clear hL hr;rcases hh with hh|⟨x1,x2,x3,x4,x5,hh⟩;all_goals rw[hh]
  all_goals refine⟨_,_,_,_,_,_,rfl,by simp,?_⟩
  . apply bn;apply aj;exact yu C rfl rfl rfl rfl rfl
  . apply bn;apply aj;exact yu C rfl rfl rfl rfl rfl)
 obtain⟨r,hr,rfl⟩:=this.out;exact hr
open Go.Proofs
theorem IX {v:AV}{h:ab}{l:List Int}(hl:ij h v=some l)(hn:l.length<1000):jb [v] h=some ⟨.iV (cM l),h,[]⟩:=by
 simp only[jb,hl];rw[if_pos (by omega)]
theorem rP (m:Nat)(h:ab)(hm:m<1000000000):lC [.iV m] h=some ⟨.str (aH m),h,[]⟩:=by
 have e:=Gq m h (by omega);rwa [show eX (m:Int)=aH m by rw[eX,if_neg (by omega)];rfl]at e
noncomputable def yw:List (Nat×Spec):=[(183,lC),(264,rp)]
noncomputable def rQ:Spec:=sK yw 225
theorem IY:aV Tryz.prog gl 225 rQ:=bU (aL wI (aL GH br))
theorem IZ:∀(m L:Nat) h,0<L/\L<=4->m<10^L->rQ [.iV m,.iV L] h=some ⟨.str (bg L m),h,[]⟩:=fun m L h hL hm=>
 bQ (HZ (M:=bA Tryz.prog FT yw) bM m L hL hm (fun h=>rP m h (Nat.lt_of_lt_of_le hm (Nat.le_trans (Nat.pow_le_pow_right (by decide) hL.2) (by decide)))) (fun k h hk=>GI k h hk)) rfl rfl rfl h
noncomputable def ko:List (Nat×Spec):=[(183,lC),(225,rQ)]
theorem rR:cR Tryz.prog gl (cT ko):=aL wI (aL IY br)
theorem yx:rK (bA Tryz.prog FT ko) where
 ft:=bM
 lI:=rP
 jm:=IZ
noncomputable def yy:Spec:=sK ko 180
noncomputable def yz:Spec:=sK ko 181
noncomputable def yA:Spec:=sK ko 182
theorem Ja:aV Tryz.prog gl 180 yy:=bU rR
theorem Jb:aV Tryz.prog gl 181 yz:=bU rR
theorem Jc:aV Tryz.prog gl 182 yA:=bU rR
noncomputable def rS:List (Nat×Spec):=[(36,gq),(113,nR),(180,yy),(181,yz),(182,yA)]
theorem Jd:cR Tryz.prog gl (cT rS):=aL nS (aL xi (aL Ja (aL Jb (aL Jc br))))
theorem Je:xG (bA Tryz.prog FT rS) where
 ft:=bM
 jl:=fun _ _ _ _=>rfl
 xH:=fun _=>rfl
 xI:=fun n h hn=>bQ (Ib yx n hn) rfl rfl rfl h
 xJ:=fun n h hn=>bQ (Ic yx n hn) rfl rfl rfl h
 xK:=fun n h hn=>bQ (Ia (M:=bA Tryz.prog FT ko) bM n hn (fun h=>rP n h hn)) rfl rfl rfl h
noncomputable def rT:Spec:=sK rS 44
theorem Jf:aV Tryz.prog gl 44 rT:=bU Jd
theorem Jg (k:ae)(v:Int)(r:ae):(fJ k v r).top=0:=by unfold fJ;split <;> rfl
theorem Jh (k:ae)(v:Int)(r:ae):bz (fJ k v r)=fJ k v r:=by unfold fJ;split <;> rfl
theorem Ji:∀k v r h,rT [dx k v r] h=some ⟨fJ k v r,h,[]⟩:=fun k v r h=>bQ (Ie Je k v r) rfl (Jg k v r) (Jh k v r) h
noncomputable def nZ:Spec:=sK [] 227
noncomputable def oa:Spec:=sK [(227,nZ)] 186
noncomputable def rU:Spec:=sK [(186,oa)] 120
theorem Jj:aV Tryz.prog gl 227 nZ:=bU br
theorem Jk:aV Tryz.prog gl 186 oa:=bU (aL Jj br)
theorem Jl:aV Tryz.prog gl 120 rU:=bU (aL Jk br)
theorem Jm:∀(s:ae) b h,s.length<1000000->rU [.str s,.str [b]] h=some ⟨.aq [.str (if bH b s then s.dropLast else s),.bool (bH b s)],h,[]⟩:=fun s b h hl=>by
 have q227:∀h,nZ [.str s,.str [b]] h=some ⟨.bool (bH b s),h,[]⟩:=bQ (HP bM s b hl) rfl rfl rfl;have q186:∀h,oa [.str s,.str [b]] h=some ⟨.aq [.str (if bH b s then s.dropLast else s),.bool (bH b s)],h,[]⟩:=bQ (HQ (M:=bA Tryz.prog FT [(227,nZ)]) bM s b hl q227) rfl rfl rfl;exact bQ (HS (M:=bA Tryz.prog FT [(186,oa)]) bM s b q186) rfl rfl rfl h
theorem Jn:∀(s:ae) h,s.length<1000000->kd [.str s] h=some ⟨.bool (decide (s≠[]) && s.all bk),h,[]⟩:=fun s h hl=>by
 have q257:∀h,kc [.str s,.str gL] h=some ⟨.str (fI (eK s)),h,[]⟩:=bQ (wv wN s hl) rfl rfl rfl;exact bQ (wz (M:=bA Tryz.prog FT [(257,kc)]) bM s q257) rfl rfl rfl h
noncomputable def yB:List (Nat×Spec):=[(209,kd),(214,rm)]
noncomputable def lK:Spec:=sK yB 187
theorem rV:aV Tryz.prog gl 187 lK:=bU (aL wM (aL GA br))
theorem rW:∀(s:ae) h,s.length<1000000->lK [.str s] h=some ⟨.aq [.iV (bw s),.bool (decide (0<=bB s))],h,[]⟩:=fun s h hl=>
 bQ (HT (M:=bA Tryz.prog FT yB) bM s hl (fun h=>Jn s h hl) (fun h h0 h1 h2=>GD s h h0 h1 h2)) rfl rfl rfl h
noncomputable def yC:List (Nat×Spec):=[(187,lK),(164,rl)]
noncomputable def lL:Spec:=sK yC 121
theorem rX:aV Tryz.prog gl 121 lL:=bU (aL rV (aL Gz br))
theorem rY:∀(s:ae) h,s.length<1000000->lL [.str s] h=some ⟨.aq [.iV (bw s),.bool (decide (0<=bE s))],h,[]⟩:=fun s h hl=>
 bQ (HU (M:=bA Tryz.prog FT yC) bM s (fun h=>rW s h hl) (fun h=>GC s h hl)) rfl rfl rfl h
noncomputable def yD:List (Nat×Spec):=[(187,lK),(95,xg)]
noncomputable def ob:Spec:=sK yD 188
theorem yE:aV Tryz.prog gl 188 ob:=bU (aL rV (aL xj br))
theorem yF:∀(s:ae) (lo hi:Nat) h,s.length<1000000->lo<=4->hi<=4->ob [.str s,.iV lo,.iV hi] h=some ⟨.aq [.iV (eB s hi),.bool (decide (0<=bV s lo hi))],h,[]⟩:=fun s lo hi h hl h1 h2=>
 bQ (HV (M:=bA Tryz.prog FT yD) bM s hl lo hi ⟨h1,h2⟩ (fun h=>rW s h hl) (fun _=>rfl)) rfl rfl rfl h
noncomputable def oc:Spec:=sK [(36,gq)] 122
theorem yG:aV Tryz.prog gl 122 oc:=bU (aL nS br)
theorem yH:∀k v r h,oc [dx k v r] h=some ⟨(dy k v r).av,h,[]⟩:=fun k v r h=>bQ (HW (M:=bA Tryz.prog FT [(36,gq)]) bM k v r (fun _=>rfl)) rfl rfl rfl h
noncomputable def rZ:List (Nat×Spec):=[(36,gq),(163,nL),(121,lL),(188,ob),(122,oc)]
theorem Jo:cR Tryz.prog gl (cT rZ):=aL nS (aL wK (aL rX (aL yE (aL yG br))))
theorem Jp:CL (bA Tryz.prog FT rZ) where
 ft:=bM
 jl:=fun _ _ _ _=>rfl
 lF:=wL
 ix:=rY
 lG:=yF
 lH:=yH
noncomputable def yI:Spec:=sK rZ 123
theorem Jq:aV Tryz.prog gl 123 yI:=bU Jo
noncomputable def od:List (Nat×Spec):=[(312,kY .index),(329,kY .count)]
theorem Jr:cR Tryz.prog gl (cT od):=aL (pK qC) (aL (pK uI) br)
theorem Js:kl (bA Tryz.prog FT od) where
 ft:=bM
 qZ:=fun _ _=>rfl
 ra:=fun _ _=>rfl
 rb:=fun _ _ _=>rfl
 yb:=fun _ _=>rfl
 yc:=fun _ _=>rfl
 yd:=fun _ _=>rfl
 ye:=fun _ _ _=>by rw[DL];rfl
noncomputable def sa:Spec:=sK od 229
theorem Jt:aV Tryz.prog gl 229 sa:=bU Jr
theorem Ju (l:List ae)(n:Nat)(cp:Option Nat):(AV.vs (strs l) n cp).top=0:=jP (f:=sF) (fun _=>rfl) l
theorem Jv:∀(s:ae) h,s.length<100000->sa [.str s,.str [58]] h=some ⟨.vs (strs (aU 58 s)) (aU 58 s).length none,h,[]⟩:=fun s h hl=>by
 have hr:=ID Js s 58 (by omega);have hh:lq (bA Tryz.prog FT od) 229 [.str s,.str [58]] (.vs (strs (aU 58 s)) (aU 58 s).length none):=by
  refine⟨_,_,?_,hr⟩;generalize aU 58 s=A;have hc:=tY (f:=sF) (esz:=1) (fun _=>rfl) (l:=A) (i:=0) (n:=A.length) (by omega);rw[List.drop_zero,List.take_length]at hc;have hc':cut (arr sF A) 0 (A.length*1)=some (arr sF A):=by simpa using hc
  refine⟨.vs (arr sF A) A.length none,.sl rfl hc' rfl (fun i x y hx hy=>?_),?_,?_⟩
  . rw[hx]at hy;cases hy;exact .same (by
     have:=dS (n:=0) (by have:=jP (f:=sF) (fun _=>rfl) A;omega) i x hx;omega)
  . exact Ju A _ _
  . simp only[bz];rw[pV (f:=sF) (fun _=>rfl) A];rfl
 exact hh.eq rfl
noncomputable def sb:List (Nat×Spec):=[(36,gq),(96,jb),(97,nm),(163,nL),(121,lL),(187,lK),(188,ob),(229,sa)]
theorem Jw:cR Tryz.prog gl (cT sb):=aL nS (aL uT (aL uS (aL wK (aL rX (aL rV (aL yE (aL Jt br)))))))
theorem Jx:kn (bA Tryz.prog FT sb) where
 ft:=bM
 jl:=fun _ _ _ _=>rfl
 yj:=fun _v _h _l hl hn=>IX hl hn
 yk:=fun _ _ _=>rfl
 lF:=wL
 ix:=rY
 yl:=rW
 lG:=yF
 yn:=Jv
 yp:=fun _ _=>rfl
 yq:=fun _ _=>rfl
noncomputable def sc:Spec:=sK sb 124
theorem Jy:aV Tryz.prog gl 124 sc:=bU Jw
theorem Jz:∀(s:ae) h,s.length<100000->sc [.str s] h=some ⟨(jj s).av,h,[]⟩:=fun s h hl=>by
 rw[←Ij s];exact bQ (IW Jx s hl) rfl rfl rfl h
noncomputable def sd:List (Nat×Spec):=[(112,ji),(120,rU),(121,lL),(122,oc),(123,yI),(124,sc)]
theorem JA:cR Tryz.prog gl (cT sd):=aL xh (aL Jl (aL rX (aL yG (aL Jq (aL Jy br)))))
theorem JB:xL (bA Tryz.prog FT sd) where
 ft:=bM
 xM:=fun _ _=>rfl
 rN:=Jm
 ix:=rY
 lH:=yH
 xN:=fun s h hl=>bQ (HX Jp s hl) rfl rfl rfl h
 xO:=fun s h hl=>Jz s h (by omega)
noncomputable def se:Spec:=sK sd 46
theorem JC:aV Tryz.prog gl 46 se:=bU JA
theorem JD:∀(s:ae) h,s.length<100000->se [.str s] h=some ⟨(cW s).av,h,[]⟩:=fun s h hl=>bQ (Ik JB s (by omega)) rfl rfl rfl h
end Go.Ab.Ch1
