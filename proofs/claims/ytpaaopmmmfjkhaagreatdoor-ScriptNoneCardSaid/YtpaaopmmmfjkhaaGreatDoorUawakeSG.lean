/- awakeS: calls that are written down with what they meet of memory, part G: each reckoned by the evaluator, in the kernel. No conditions. -/
import Derived.Test.YtpaaopmmmfjkhaaGreatDoorUawakeST
import Derived.Test.YtpaaopmmmfjkhaaGreatDoorProg
import Derived.KernelRfl
set_option linter.unusedVariables false
set_option maxRecDepth 1000000
namespace Go.Proofs.YtpaaopmmmfjkhaaGreatDoor.Q.awakeS
open Go.RowKit
open Go.Proofs.YtpaaopmmmfjkhaaGreatDoor.Ev (sV bV iV bL tL sl sx pt mp nS nP nM u3 u6 i3 bT bF ag K0 K1 Fm Row RowGood RowH RowHGood LO putAt)
def a0:List (Nat×LO):=[e 61 D2a,e 62 D8i,(63,K0 [pt 62 0,nP,iV 1,iV 1,iV 1000,u3 0,i3 1,u3 0,iV 0,nP,iV 0,iV 0,iV 0,iV 0,nS,nS,nS,nS,nP,nM])]
def b0:List (Nat×LO):=[(61,.map [⟨sV [110,46,108],pt 175 0,0⟩] 1),e 62 D3q,(63,K0 [pt 62 0,nP,iV 1,iV 1,iV 1000,u3 0,i3 1,u3 0,iV 0,pt 81 0,iV 1,iV 1,iV 0,iV 1,nS,nS,nS,nS,pt 212 0,mp 383]),(81,K0 [pt 62 0,sV [110],u3 1,i3 0,u3 0,iV 0,iV 0,nS,sl 347 0 1 1 1,bF]),(175,K0 [sl 381 0 1 36 36,bT,nS]),e 212 D8,e 346 D0,e 347 D3,e 380 D0,e 381 D3r,e 383 D2a]
def p0:RowH:=⟨316,⟨64,[pt 63 0],a0,iV 0,b0,384⟩⟩
theorem G0:Gd p0:=G [] Z (by decide) (by decide +kernel)
def a6:List (Nat×LO):=[e 61 D47,e 62 D3q,(64,K0 [pt 62 0,pt 63 0,iV 2,iV 3,iV 1000,u3 1,i3 0,u3 0,iV 0,pt 65 0,iV 2,iV 3,iV 0,iV 1,nS,nS,nS,nS,pt 67 0,mp 73]),e 65 Dbj,e 66 D8l,e 69 D0,e 70 D3,e 71 D0,e 72 D3r]
def b6:List (Nat×LO):=[e 62 D3s,(64,K0 [pt 62 0,pt 63 0,iV 2,iV 3,iV 1000,u3 1,i3 0,u3 0,iV 0,pt 65 0,iV 2,iV 3,iV 0,iV 1,nS,nS,sl 143 0 2 1 1,nS,pt 67 0,mp 73]),e 65 Dbk,e 66 D8m,e 69 D8n,e 142 D0,e 143 D4,e 296 D8o,e 329 D0,e 330 D6p]
def p6:RowH:=⟨239,⟨74,[pt 64 0,ag [iV 4,iV 1,iV 0,iV 0,sV [],iV 0,iV 0,nS,nS,sV [],iV 0,iV 0,nS,nS,iV 0,iV 0,nS]],a6,iV 0,b6,332⟩⟩
theorem G6:Gd p6:=G [] Z (by decide) (by decide +kernel)
def a16:List (Nat×LO):=[e 61 Dp,e 62 D3q,e 64 Dx,(65,K0 [pt 62 0,pt 64 0,iV 3,iV 3,iV 1000,u3 1,i3 1,u3 0,iV 0,pt 66 0,iV 3,iV 3,iV 0,iV 1,nS,nS,nS,nS,pt 68 0,mp 71]),e 67 D8j,e 69 D0,e 70 D3r]
def b16:List (Nat×LO):=[e 62 D3s,(65,K0 [pt 62 0,pt 64 0,iV 3,iV 3,iV 1000,u3 1,i3 1,u3 0,iV 0,pt 89 0,iV 3,iV 3,iV 0,iV 2,nS,nS,nS,nS,pt 467 0,mp 688]),e 67 Dbd,e 216 D0,e 217 Dc,e 229 Dbe,e 230 D1g,e 467 D8,e 544 Dbf,e 589 Dbg,e 594 D2b,e 596 Dbh,e 597 Dbi,e 688 D2a]
def p16:RowH:=⟨316,⟨72,[pt 65 0],a16,iV 0,b16,689⟩⟩
theorem G16:Gd p16:=G [] Z (by decide) (by decide +kernel)
def a21:List (Nat×LO):=[e 62 D1m,(63,K0 [sl 81 0 3 3 3,sl 86 0 1 3 3,iV 1000,nS,iV 0]),(64,K0 [pt 61 0,nP,iV 1,iV 1,iV 1000,u3 1,i3 0,u3 0,iV 0,pt 65 0,iV 1,iV 1,iV 0,iV 3,nS,nS,sl 92 0 2 2 2,nS,pt 66 0,mp 67]),e 69 D12,(71,K0 [sl 98 0 4 1 1,mp 70,iV 1]),e 72 D3v,e 73 D8y,e 74 Dbr,e 78 D0,e 79 D4,e 80 D0,e 81 D17,e 83 D1p,e 85 Dx,(86,K1 [pt 62 0,pt 69 0,pt 83 0] 72),(87,K0 [pt 82 0,pt 85 0,iV 3,iV 3,iV 1000,u3 1,i3 0,u3 0,iV 0,pt 88 0,iV 3,iV 3,iV 0,iV 2,nS,nS,sl 94 0 2 1 1,nS,pt 89 0,mp 90]),e 91 D0,e 92 Dh,e 93 D0,e 94 D4,e 95 D0,e 96 D1,e 97 D0,e 98 Dd]
def b21:List (Nat×LO):=[]
def p21:RowH:=⟨9,⟨99,[pt 63 0],a21,iV 56,b21,423⟩⟩
theorem G21:Gd p21:=G [] Z (by decide) (by decide +kernel)
def a24:List (Nat×LO):=[e 61 D11,e 62 Di,e 63 Dbz,e 64 Dc0,e 65 Dc1,e 68 D24,e 69 D3,e 72 Dy,e 74 D1x,e 76 D3w,e 77 D0,e 78 Dh,e 80 Dc2,e 81 D0,e 82 D2v]
def b24:List (Nat×LO):=[e 62 Dz,e 63 Dc3,(64,K0 [pt 62 0,sV [110],u3 1,i3 0,u3 0,iV 0,iV 0,nS,sl 348 0 1 6 6,bF]),(65,K0 [sl 382 0 1 123 123,bT,nS]),e 68 D8z,e 177 D0,e 178 Dh,e 346 D0,e 347 D3e,(348,K1 [sl 67 0 1 4 4,sl 71 0 1 8 8,sl 73 0 1 4 4,sl 75 0 1 8 8,sl 79 0 1 4 4,sl 347 0 1 3 3] 68),e 381 D0,(382,K1 (bL [0,0,0,8,168,199,248,50,40,26,57,197,0,0,0,0,0,0,0,0,0,0,0,4,164,125,234,119,66,173,119,67,1,7,1,1,0,0,0,8,134,110,62,213,105,40,219,196,1,4,1,2,1,2,0,0,0,0,0,4,164,125,235,119,66,173,120,246,1,7,1,2,0,0,0,8,185,180,179,187,152,68,234,131,1,4,1,3,1,2,0,0,0,0,0,4,164,125,236,119,66,173,122,169,1,7,1,3,0,0,0,3,208,136,103,24,103,16,23,196,1,8,0]) 381)]
def p24:RowH:=⟨239,⟨83,[pt 63 0,ag [iV 8,iV 0,iV 0,iV 0,sV [],iV 0,iV 0,nS,nS,sV [],iV 0,iV 0,nS,nS,iV 0,iV 0,nS]],a24,iV 0,b24,384⟩⟩
theorem G24:Gd p24:=G [] Z (by decide) (by decide +kernel)
def a32:List (Nat×LO):=[e 61 Dm,e 62 D1f,e 63 Dck,e 64 Dcl,e 65 Dcm,e 67 D5g,e 68 D3,e 70 D5,e 72 D6,e 74 Da,e 76 Db,e 79 Dcn,e 81 D0,e 82 Dh,e 84 Dco,e 85 D0,e 86 Dcj]
def b32:List (Nat×LO):=[e 62 D1a,e 63 Dcp,e 64 Dcq,e 65 Dcr,e 67 Dcs,e 181 D0,e 182 Dh,e 343 D0,e 344 D1u,e 345 Dct,e 378 D0,(379,K1 (bL [0,0,0,8,168,199,248,50,40,26,57,197,0,0,0,0,0,0,0,0,0,0,0,4,164,125,234,119,66,173,119,67,1,7,1,1,0,0,0,8,134,110,62,213,105,40,219,196,1,4,1,2,1,2,0,0,0,0,0,4,164,125,235,119,66,173,120,246,1,7,1,2,0,0,0,8,185,180,179,187,152,68,234,131,1,4,1,3,1,2,0,0,0,0,0,4,164,125,236,119,66,173,122,169,1,7,1,3,0,0,0,4,164,125,237,119,66,173,124,92,1,7,1,4,0,0,0,8,134,110,62,213,105,40,219,196,1,4,1,2,1,2,0,0,0,0,0,4,164,125,238,119,66,173,126,15,1,7,1,5]) 378)]
def p32:RowH:=⟨239,⟨87,[pt 64 0,ag [iV 7,iV 5,iV 0,iV 0,sV [],iV 0,iV 0,nS,nS,sV [],iV 0,iV 0,nS,nS,iV 0,iV 0,nS]],a32,iV 0,b32,381⟩⟩
theorem G32:Gd p32:=G [] Z (by decide) (by decide +kernel)
def a33:List (Nat×LO):=[e 61 Dm,e 62 Dz,e 63 D6s,e 64 D6t,e 65 D6u,e 67 D3v,e 68 D3,e 70 D5,e 72 D6,e 74 Da,e 76 Db,e 78 D0,e 79 Dh,e 81 D6v,e 82 D0,e 83 D3c]
def b33:List (Nat×LO):=[e 62 D1f,e 63 Dce,e 64 Dcf,e 65 Dcg,e 67 Dch,e 179 D0,e 180 Dh,e 400 D0,e 401 Dn,e 402 Dci,e 435 D0,e 436 Dcu]
def p33:RowH:=⟨239,⟨85,[pt 64 0,ag [iV 4,iV 3,iV 0,iV 0,sV [],iV 0,iV 0,nS,nS,sV [],iV 0,iV 0,nS,nS,iV 0,iV 0,nS]],a33,iV 0,b33,438⟩⟩
theorem G33:Gd p33:=G [] Z (by decide) (by decide +kernel)
def a41:List (Nat×LO):=[e 61 D14,e 62 Dq,e 64 Dd1,(65,K0 [pt 62 0,pt 63 0,iV 2,iV 3,iV 1000,u3 1,i3 1,u3 0,iV 0,pt 69 0,iV 2,iV 3,iV 0,iV 3,nS,nS,sl 80 0 2 1 1,nS,pt 81 0,mp 68]),e 66 D0,e 67 D25,e 69 D96,e 71 D6y,e 72 D3,e 74 D5,e 76 D6,e 78 Dd2,e 79 D0,e 80 D4]
def b41:List (Nat×LO):=[e 62 Di,e 64 Dd3,(65,K0 [pt 62 0,pt 63 0,iV 2,iV 3,iV 1000,u3 1,i3 1,u3 0,iV 0,pt 69 0,iV 2,iV 3,iV 0,iV 4,nS,nS,sl 150 0 2 1 1,nS,pt 81 0,mp 68]),e 69 Dd4,e 71 Dd5,e 149 D0,e 150 D4,e 300 D0,e 301 Dl,e 302 Dd6,e 335 D0,e 336 D6z]
def p41:RowH:=⟨239,⟨82,[pt 65 0,ag [iV 7,iV 4,iV 0,iV 0,sV [],iV 0,iV 0,nS,nS,sV [],iV 0,iV 0,nS,nS,iV 0,iV 0,nS]],a41,iV 0,b41,338⟩⟩
theorem G41:Gd p41:=G [] Z (by decide) (by decide +kernel)
def a90:List (Nat×LO):=[e 61 Dm,e 62 D1a,e 63 Dej,e 64 Dek,e 65 Del,e 67 D33,e 68 D3,e 70 D5,e 72 D6,e 74 Da,e 76 Db,e 78 Dj,e 81 Dem,e 83 D0,e 84 Dh,e 86 Den,e 87 D0,e 88 Des]
def b90:List (Nat×LO):=[e 62 D1j,e 63 Deo,e 64 Dep,e 65 Deq,e 67 D8z,e 183 D0,e 184 Dh,e 345 D0,e 346 D1u,e 347 Der,e 380 D0,(381,K1 (bL [0,0,0,8,168,199,248,50,40,26,57,197,0,0,0,0,0,0,0,0,0,0,0,4,164,125,234,119,66,173,119,67,1,7,1,1,0,0,0,8,134,110,62,213,105,40,219,196,1,4,1,2,1,2,0,0,0,0,0,4,164,125,235,119,66,173,120,246,1,7,1,2,0,0,0,8,185,180,179,187,152,68,234,131,1,4,1,3,1,2,0,0,0,0,0,4,164,125,236,119,66,173,122,169,1,7,1,3,0,0,0,5,233,40,100,107,255,170,192,229,1,8,2,39,16,0,0,0,4,164,125,237,119,66,173,124,92,1,7,1,4,0,0,0,8,185,180,179,187,152,68,234,131,1,4,1,3,1,2,0,0,0,0,0,4,164,125,238,119,66,173,126,15,1,7,1,5]) 380)]
def p90:RowH:=⟨239,⟨89,[pt 64 0,ag [iV 7,iV 5,iV 0,iV 0,sV [],iV 0,iV 0,nS,nS,sV [],iV 0,iV 0,nS,nS,iV 0,iV 0,nS]],a90,iV 0,b90,383⟩⟩
theorem G90:Gd p90:=G [] Z (by decide) (by decide +kernel)
def a121:List (Nat×LO):=[e 61 D0,e 62 Dc,e 63 D3x,e 64 D3,e 65 D0,e 66 Dk,e 67 Dy,e 68 D0,e 69 Dg,e 70 D2m,e 71 D0,e 72 Dn,e 73 D4v,e 74 D0,e 75 D9,e 76 D4w,e 77 D0,e 78 D7,e 79 D4x,e 80 D0,e 81 Dv,e 82 D5m,e 83 D0,e 84 D10,e 85 D5n,e 86 D0,e 87 D7,e 88 D6i]
def b121:List (Nat×LO):=[e 3205 D2y,e 3434 Dfs,e 5060 D0,e 5061 D13,e 5063 D0,e 5064 D2e,e 5086 D0,e 5087 D1,e 5102 D0,e 5103 D2]
def p121:RowH:=⟨107,⟨89,[ag [iV 1,iV 1,iV 0,iV 0,nS,nS,nS,nS],sl 88 0 1 9 9],a121,.tuple ⟨[ag [iV 1,iV 1,iV 0,iV 3,sl 5061 0 7 1 1,nS,sl 5064 0 2 2 2,nS],iV 0]⟩,b121,5152⟩⟩
theorem G121:Gd p121:=G [] Z (by decide) (by decide +kernel)
def a123:List (Nat×LO):=[e 61 Dm,e 62 D52,(63,K0 [sl 65 0 1 197 197,bT,sl 89 0 1 1 1]),e 64 D0,e 65 D2f,(66,K0 [pt 62 0,sV [110],u3 1,i3 0,u3 0,iV 0,iV 0,nS,sl 91 0 1 10 10,bF]),e 68 D3g,e 69 D3,e 71 D5,e 73 D6,e 75 Da,e 77 Db,e 79 Dj,e 81 Ds,e 83 Dt,e 85 Du,e 86 D0,e 87 D4e,e 88 D0,e 89 D34,(91,K1 [sl 67 0 1 4 4,sl 70 0 1 8 8,sl 72 0 1 4 4,sl 74 0 1 8 8,sl 76 0 1 4 4,sl 78 0 1 5 5,sl 80 0 1 23 23,sl 82 0 1 8 8,sl 84 0 1 5 5,sl 90 0 1 4 4] 68)]
def b123:List (Nat×LO):=[e 62 D1e,(63,K0 [sl 125 0 1 213 213,bT,nS]),e 124 D0,e 125 D27]
def p123:RowH:=⟨349,⟨92,[pt 66 0],a123,iV 0,b123,127⟩⟩
theorem G123:Gd p123:=G [] Z (by decide) (by decide +kernel)
def a132:List (Nat×LO):=[e 61 Dm,e 62 D1e,e 63 D7u,e 64 D7v,e 66 D33,e 67 D3,e 69 D5,e 71 D6,e 73 Da,e 75 Db,e 77 Dj,e 79 Ds,e 81 Dt,e 83 Du,e 85 D2p,e 86 D0,e 87 D27,e 88 D0,e 89 D48]
def b132:List (Nat×LO):=[e 62 D21,e 63 D7w,e 64 D7x,e 66 D5q,e 167 D0,e 168 Daa,e 170 D0,e 171 D5p,e 184 D0,e 185 D48,e 186 Dgh]
def p132:RowH:=⟨348,⟨90,[pt 64 0,sl 89 0 1 4 4],a132,iV 0,b132,187⟩⟩
theorem G132:Gd p132:=G [] Z (by decide) (by decide +kernel)
def a144:List (Nat×LO):=[e 61 Dm,e 62 D3o,e 63 Dgq,e 64 D5t,e 66 D4g,e 67 D3,e 69 D5,e 71 D6,e 73 Da,e 75 Db,e 77 Dj,e 79 Ds,e 81 Dt,e 83 Du,e 85 D2p,e 87 D81,e 88 D0,e 89 Dgz,e 90 D0,e 91 D6k,e 92 D0,e 93 D34,e 95 Dgr]
def b144:List (Nat×LO):=[e 64 D5u,e 66 D4h,e 139 D2b,e 140 Dgs,e 147 D7t,e 148 Dgt,e 243 D0,e 244 Dc,e 272 D0,e 273 Dk,e 301 D0,e 330 D0,e 331 Dn,e 359 D0,e 360 D9,e 388 D0,e 389 D7,e 417 D0,e 418 Dv,e 446 D0,e 447 D10,e 475 D0,e 504 D0,e 505 Dl,e 533 D0,e 534 Dn,e 562 D0,e 563 D1u,e 575 Dgu]
def p144:RowH:=⟨552,⟨96,[pt 64 0],a144,.tuple ⟨[]⟩,b144,583⟩⟩
theorem G144:Gd p144:=G [] Z (by decide) (by decide +kernel)
def a167:List (Nat×LO):=[e 61 D47,e 62 Do,(64,K0 [pt 62 0,pt 63 0,iV 3,iV 3,iV 1000,u3 1,i3 0,u3 0,iV 0,pt 65 0,iV 3,iV 3,iV 0,iV 2,nS,nS,sl 75 0 2 1 1,nS,pt 67 0,mp 71]),e 65 Dd0,e 66 D3t,e 69 D2t,e 70 D3,e 73 Dy,e 74 D0,e 75 D4,e 77 D3u,e 78 D0,e 79 Dr,e 80 D0,e 81 D1]
def b167:List (Nat×LO):=[e 62 Dq,(64,K0 [pt 62 0,pt 63 0,iV 3,iV 3,iV 1000,u3 1,i3 0,u3 0,iV 0,pt 65 0,iV 3,iV 3,iV 0,iV 2,sl 489 0 7 1 1,nS,sl 150 0 2 1 1,nS,pt 67 0,mp 71]),(65,K0 [pt 62 0,sV [110],u3 1,i3 0,u3 0,iV 0,iV 0,nS,sl 772 0 1 4 4,bF]),(66,K0 [sl 806 0 1 107 107,bT,nS]),(69,Fm 772 70),e 149 D0,e 150 D4,e 485 D0,e 486 D1,e 488 D0,e 489 D5h,(772,K1 [sl 68 0 1 4 4,sl 72 0 1 8 8,sl 76 0 1 4 4,sl 771 0 1 23 23] 69),e 805 D0,e 806 Dhp]
def p167:RowH:=⟨239,⟨82,[pt 64 0,ag [iV 2,iV 0,iV 2,iV 1,sV [102],iV 1,iV 0,sl 81 0 1 1 1,nS,sV [],iV 0,iV 0,nS,nS,iV 0,iV 0,nS]],a167,iV 0,b167,808⟩⟩
theorem G167:Gd p167:=G [] Z (by decide) (by decide +kernel)
def a174:List (Nat×LO):=[(61,.map [⟨sV [110,46,108],pt 66 0,0⟩,⟨sV [105],pt 94 0,1⟩] 2),e 62 Dz,(64,K0 [pt 62 0,pt 63 0,iV 3,iV 3,iV 1000,u3 1,i3 0,u3 0,iV 0,pt 65 0,iV 3,iV 3,iV 0,iV 2,sl 79 0 7 1 1,nS,sl 81 0 2 1 1,nS,pt 67 0,mp 71]),(65,K0 [pt 62 0,sV [110],u3 1,i3 0,u3 0,iV 0,iV 0,nS,sl 87 0 1 5 5,bF]),e 66 Daj,e 69 Dhr,e 70 D3,e 73 Dy,e 75 D1x,e 77 Dhs,e 78 D0,e 79 Dw,e 80 D0,e 81 D29,e 82 D0,e 83 D1,e 84 D0,e 85 D2,e 87 Dht,e 88 D0,e 89 D44,e 90 D0,e 91 D1,e 92 D0,e 93 D2,(94,K0 [sl 95 0 1 25 25,bT,nS])]
def b174:List (Nat×LO):=[e 62 D1f,(64,K0 [pt 62 0,pt 63 0,iV 3,iV 3,iV 1000,u3 1,i3 0,u3 0,iV 0,pt 65 0,iV 3,iV 3,iV 0,iV 2,sl 385 0 7 1 1,sl 529 0 5 1 1,sl 388 0 2 1 1,nS,pt 67 0,mp 71]),(65,K0 [pt 62 0,sV [110],u3 1,i3 0,u3 0,iV 0,iV 0,nS,sl 1019 0 1 6 6,bF]),(66,K0 [sl 1053 0 1 165 165,bT,nS]),(69,Fm 1019 70),e 384 D0,e 385 D13,e 387 D0,e 388 D59,e 410 D0,e 411 D1,e 426 D0,e 427 D2,e 522 D0,e 523 D1,e 525 D0,e 526 D2,e 528 D0,e 529 D3f,e 1017 D0,e 1018 D5a,(1019,K1 [sl 68 0 1 4 4,sl 72 0 1 8 8,sl 74 0 1 4 4,sl 76 0 1 23 23,sl 86 0 1 8 8,sl 1018 0 1 26 26] 69),e 1052 D0,e 1053 D31]
def p174:RowH:=⟨239,⟨96,[pt 64 0,ag [iV 3,iV 0,iV 0,iV 0,sV [],iV 0,iV 0,nS,nS,sV [102],iV 1,iV 0,sl 91 0 1 1 1,sl 93 0 3 1 1,iV 0,iV 0,nS]],a174,iV 0,b174,1055⟩⟩
theorem G174:Gd p174:=G [] Z (by decide) (by decide +kernel)
def a181:List (Nat×LO):=[(61,.map [⟨sV [110,46,108],pt 65 0,0⟩,⟨sV [105],pt 67 0,1⟩] 2),e 62 D1a,(64,K0 [pt 62 0,pt 63 0,iV 3,iV 3,iV 1000,u3 1,i3 1,u3 0,iV 0,pt 70 0,iV 3,iV 3,iV 0,iV 2,sl 85 0 7 1 1,sl 97 0 5 1 1,sl 87 0 2 1 1,nS,pt 98 0,mp 66]),(65,K0 [sl 69 0 1 165 165,bT,nS]),e 67 D23,e 68 D0,e 69 D31,(70,K0 [pt 62 0,sV [110],u3 1,i3 0,u3 0,iV 0,iV 0,nS,sl 83 0 1 6 6,bF]),e 72 D2u,e 73 D3,e 75 D5,e 77 D6,e 79 D1i,e 81 D22,e 83 D45,e 84 D0,e 85 Dw,e 86 D0,e 87 D29,e 88 D0,e 89 D1,e 90 D0,e 91 D2,e 92 D0,e 93 D1,e 94 D0,e 95 D2,e 96 D0,e 97 D1b]
def b181:List (Nat×LO):=[e 62 D1j,(64,K0 [pt 62 0,pt 63 0,iV 3,iV 3,iV 1000,u3 1,i3 1,u3 0,iV 0,pt 70 0,iV 3,iV 3,iV 0,iV 3,sl 543 0 7 1 1,sl 546 0 5 1 1,sl 549 0 2 1 1,nS,pt 98 0,mp 66]),e 65 Dhv,(70,K0 [pt 62 0,sV [110],u3 1,i3 0,u3 0,iV 0,iV 0,nS,sl 758 0 1 7 7,bF]),e 72 Dhw,e 542 D0,e 543 D1c,e 545 D0,e 546 D1d,e 548 D0,e 549 D35,e 571 D0,e 572 D1,e 594 D0,e 595 D1,e 597 D0,e 598 D2,e 613 D0,e 614 D2,e 756 D0,e 757 D9,e 758 Dhx,e 791 D0,e 792 D3p]
def p181:RowH:=⟨239,⟨99,[pt 64 0,ag [iV 7,iV 3,iV 0,iV 0,sV [],iV 0,iV 0,nS,nS,sV [],iV 0,iV 0,nS,nS,iV 0,iV 0,nS]],a181,iV 0,b181,794⟩⟩
theorem G181:Gd p181:=G [] Z (by decide) (by decide +kernel)
def a183:List (Nat×LO):=[e 61 De,e 62 D9u,e 63 D0,e 64 D1,e 65 D0,e 66 Dd,e 67 D0,e 68 Dhq,e 69 D0,e 70 D1,e 71 D0,e 72 D1,e 73 D0,e 74 D2,e 75 D0,e 76 D1b]
def b183:List (Nat×LO):=[]
def p183:RowH:=⟨240,⟨77,[pt 62 0,sl 76 0 5 1 1,sl 68 0 7 1 1],a183,.tuple ⟨[ag [sV [],iV 0,iV 0,nS,nS,iV 0],bF,iV 0]⟩,b183,1481⟩⟩
theorem G183:Gd p183:=G [] Z (by decide) (by decide +kernel)
def a190:List (Nat×LO):=[e 61 Dm,e 62 D21,(63,K0 [sl 65 0 1 214 214,bT,sl 91 0 1 1 1]),e 64 D0,e 65 D32,e 66 Dg9,e 68 D3x,e 69 D3,e 71 D5,e 73 D6,e 75 Da,e 77 Db,e 79 Dj,e 81 Ds,e 83 Dt,e 85 Du,e 87 D1l,e 88 D0,e 89 D4e,e 90 D0,e 91 D34,(93,K1 [sl 67 0 1 4 4,sl 70 0 1 8 8,sl 72 0 1 4 4,sl 74 0 1 8 8,sl 76 0 1 4 4,sl 78 0 1 5 5,sl 80 0 1 23 23,sl 82 0 1 8 8,sl 84 0 1 5 5,sl 86 0 1 5 5,sl 92 0 1 4 4] 68)]
def b190:List (Nat×LO):=[e 66 Dga,e 68 Dgb,e 129 D0,e 137 D2b,e 142 Dgc,e 149 D7t,e 150 Dgd,e 163 Dge,e 168 D2b,e 170 Dgf,e 171 Dgg,e 241 D0,e 242 Dc,e 270 D0,e 271 Dk,e 299 D0,e 300 Dg,e 328 D0,e 329 Dn,e 357 D0,e 358 D9,e 386 D0,e 387 D7,e 415 D0,e 416 Dv,e 444 D0,e 445 D10,e 473 D0,e 474 D7,e 502 D0,e 503 D7,e 531 D0,e 532 Dl,(544,K1 [sl 67 0 1 4 4,sl 70 0 1 8 8,sl 72 0 1 4 4,sl 74 0 1 8 8,sl 76 0 1 4 4,sl 78 0 1 5 5,sl 80 0 1 23 23,sl 82 0 1 8 8,sl 84 0 1 5 5,sl 86 0 1 5 5,sl 92 0 1 4 4,sl 242 0 1 4 4,sl 271 0 1 8 8,sl 300 0 1 4 4,sl 329 0 1 8 8,sl 358 0 1 4 4,sl 387 0 1 5 5,sl 416 0 1 23 23,sl 445 0 1 8 8,sl 474 0 1 5 5,sl 503 0 1 5 5,sl 532 0 1 4 4] 68)]
def p190:RowH:=⟨552,⟨94,[pt 66 0],a190,.tuple ⟨[]⟩,b190,552⟩⟩
theorem G190:Gd p190:=G [] Z (by decide) (by decide +kernel)
def a197:List (Nat×LO):=[e 61 Dm,e 62 D1q,e 63 Dim,e 64 D0,e 65 D2q,e 66 Diq,e 68 D53,e 69 D3,e 71 D5,e 73 D6,e 75 Da,e 77 Db,e 79 Dj,e 81 Ds,e 83 Dt,e 85 Du,e 87 D1l,e 89 D3b]
def b197:List (Nat×LO):=[e 66 Dir,e 68 Dis,e 216 D0,e 217 Dc,e 245 D0,e 246 Dk,e 274 D0,e 275 Dg,e 303 D0,e 304 Dn,e 332 D0,e 333 D9,e 361 D0,e 362 D7,e 390 D0,e 391 Dv,e 419 D0,e 420 D10,e 448 D0,e 449 D7,e 477 D0,e 478 D7,e 506 D0,e 507 Dl,(519,K1 [sl 67 0 1 4 4,sl 70 0 1 8 8,sl 72 0 1 4 4,sl 74 0 1 8 8,sl 76 0 1 4 4,sl 78 0 1 5 5,sl 80 0 1 23 23,sl 82 0 1 8 8,sl 84 0 1 5 5,sl 86 0 1 5 5,sl 88 0 1 4 4,sl 217 0 1 4 4,sl 246 0 1 8 8,sl 275 0 1 4 4,sl 304 0 1 8 8,sl 333 0 1 4 4,sl 362 0 1 5 5,sl 391 0 1 23 23,sl 420 0 1 8 8,sl 449 0 1 5 5,sl 478 0 1 5 5,sl 507 0 1 4 4] 68)]
def p197:RowH:=⟨552,⟨90,[pt 66 0],a197,.tuple ⟨[]⟩,b197,527⟩⟩
theorem G197:Gd p197:=G [] Z (by decide) (by decide +kernel)
end Go.Proofs.YtpaaopmmmfjkhaaGreatDoor.Q.awakeS
