/- This text lists functions of this seat's program, compiled for the evaluator; no condition. -/
import Derived.Test.YtdndkdliiojpiaaGreatOTb1
set_option linter.defProp false
set_option linter.unusedVariables false
namespace Go.TrRun
open Go Go.Eng Go.Eng.Ins Go.Proofs
set_option maxRecDepth 100000
set_option maxHeartbeats 0
noncomputable section
def Zs2:CC:=(sQ (sQ (rH 0 127 [ii .geq 17 0] [128,17,13,1,9,7,2,12,11,15,14])
 (cD 128 .skip
 (.exit 4)))
 (sQ (.block 5 (rP 1 131 [f 2 14,j 2 133,aa 4 11 15,f 2 135,j 7 138,m 17,j 1 132,l 131,j 6 137,l 136,j 8 139,a 3 137 138,t 3 139,o (.lit 0 3 [[(I 0),(I 0),(I 0)]] [(0,(.s 140))]),o (.append 3 24 (.s 132) (.s 141)),f 2 14,w 1 143 142] [(6,10)] [17,13,1,9,7,2,12,11,15,14]))
 (rH 0 129 [ii .sub 17 1,q 17 130] [17,13,1,9,7,2,12,11,15,14])))
def Zs1:CC:=(sQ (sQ (rH 0 151 [ii .geq 18 0] [152,18,12,2,7,9,1,13,11,15,14])
 (cD 152 .skip
 (.exit 6)))
 (sQ (.block 7 (rP 1 155 [f 3 14,j 2 157,aa 4 11 15,f 3 159,j 7 162,m 18,j 1 156,l 155,j 6 161,l 160,j 8 163,a 3 161 162,t 3 163,o (.lit 0 3 [[(I 0),(I 0),(I 0)]] [(0,(.s 164))]),o (.append 3 24 (.s 156) (.s 165)),f 3 14,w 1 167 166] [(6,10)] [18,12,2,7,9,1,13,11,15,14]))
 (rH 0 153 [ii .sub 18 1,q 18 154] [18,12,2,7,9,1,13,11,15,14])))
def Zs0:CC:=(sQ (sQ (rH 0 85 [ii .geq 15 0,m 86,g 87 true,m 15,ii .sub 12 4,b .geq 88 90,h,y 87 91] [92,15,13,1,9,7,2,12,14,11])
 (cD 92 .skip
 (.exit 2)))
 (sQ (.block 3 (sQ (rH 0 16 [v 0] [16,15,13,1,9,7,2,12,14,11])
 (sQ (sQ (rH 0 95 [k .gtr 2 0] [97,16,15,13,1,9,7,2,12,14,11])
 (cD 97 (rH 0 98 [m 2,bn .rem 15 2,a 1 98 102,l 103,d 16 [(.s 104),(kI 5)],q 16 105] [16,15,13,1,9,7,2,12,14,11])
 .skip))
 (sQ (sQ (rH 0 106 [bb .add 15 16,m 12,b .neq 108 109] [110,15,13,1,9,7,2,12,14,11])
 (cD 110 (.exit 3)
 .skip))
 (sQ (rH 0 111 [f 1 14,j 2 113,aa 4 11 15,f 1 115,j 1 112,l 111,j 6 117,l 116,o (.append 3 56 (.s 112) (.s 117)),f 1 14,w 1 119 118] [13,1,9,7,2,12,11,15,14])
 (sQ (sQ (rH 0 120 [aa 4 11 15,fl 2 122,n 124,i .sub 125 1,q 17 126] [17,13,1,9,7,2,12,11,15,14])
 (.block 4 (.loop (some [17,13,1,9,7,2,12,11,15,14]) Zs2)))
 (sQ (rH 0 144 [aa 4 11 15,fl 3 146,n 148,i .sub 149 1,q 18 150] [18,12,2,7,9,1,13,11,15,14])
 (.block 6 (.loop (some [18,12,2,7,9,1,13,11,15,14]) Zs1)))))))))
 (rH 0 93 [ii .sub 15 1,q 15 94] [15,13,1,9,7,2,12,14,11])))
def ZsZ:CC:=(sQ (sQ (rH 0 59 [m 12,k .add 1 4,b .lss 59 62] [63,11,1,9,7,2,12])
 (cD 63 .skip
 (.exit 0)))
 (sQ (.block 1 (sQ (rH 2 66 [m 12,o (.build [(I 0),.jc,.jc,.jc] [(0,1,(.s 66))]),m 12,o (.build [(I 0),.jc,.jc,.jc] [(0,1,(.s 68))]),od 13 (.box 0 4 zS8),od 14 (.box 1 4 zS8),w 4 13 67,w 4 14 69] [11,13,1,9,7,2,12,14])
 (sQ (sQ (rH 0 70 [bn .lss 12 1] [73,11,13,1,9,7,2,12,14])
 (cD 73 (rH 0 74 [aa 4 1 12,t 4 76,m 12,c 21 [77,78],w 4 13 79] [11,13,1,9,7,2,12,14])
 .skip))
 (sQ (rH 1 80 [m 11,t 4 13,o (.lit 0 4 [[(I 0),.jc,.jc,.jc]] [(0,(.s 81))]),o (.append 4 80 (.s 80) (.s 82)),q 11 83] [13,1,9,7,2,12,14,11])
 (sQ (sQ (rH 0 84 [p 15 12] [15,13,1,9,7,2,12,14,11])
 (.block 2 (.loop (some [15,13,1,9,7,2,12,14,11]) Zs0)))
 (sQ (sQ (rH 0 168 [fl 2 14,n 169,i .gtr 170 8,m 171,g 172 false,fl 3 14,n 174,i .gtr 175 8,h,r 172 176,m 177,g 178 false,fl 2 13,n 180,i .gtr 181 8,h,r 178 182,m 183,g 184 false,fl 3 13,n 186,i .gtr 187 8,h,r 184 188] [189,2,7,9,1,11,12,14,13])
 (cD 189 (sQ (rH 0 190 [c 10 [],q 6 190] [6])
 .ret)
 .skip))
 (sQ (rH 0 192 [m 7,t 4 13,c 17 [192,193],q 191 194,e 191 0,e 191 1,q 8 196] [14,12,11,1,9,7,2,8])
 (sQ (rH 0 198 [m 9,t 4 14,c 17 [198,199],q 197 200,e 197 0,e 197 1,q 10 202] [12,11,1,9,7,2,10,8])
 (sQ (sQ (rH 0 203 [m 7,c 18 [203],i .neq 204 1] [205,12,11,1,9,7,2,10,8])
 (cD 205 (sQ (rH 0 206 [c 10 [],q 6 206] [6])
 .ret)
 .skip))
 (sQ (rH 0 207 [ii .neq 8 0,m 208,g 209 false,ii .neq 10 0,h,r 209 211] [212,2,7,9,1,11,12])
 (cD 212 (sQ (rH 0 6 [o (.mv (kB false))] [6])
 .ret)
 .skip)))))))))))
 (rH 0 64 [inc 12] [11,1,9,7,2,12])))
abbrev Zs9:Nat:=4
def Zs3:CFn:=fN 3 226 [(.slot 6)]
 (sQ (rH 1 6 [x 3 0 12 0,o (.mv (kB false))] [1,2,3])
  (sQ (sQ (rH 0 19 [m 1,c 9 [19],u 20,m 21,g 22 false,k .gtr 1 6,h,r 22 25,m 26,g 27 false,k .gtr 2 8,h,r 27 30] [31,1,2,3])
  (cD 31 (sQ (rH 0 32 [c 10 [],q 6 32] [6])
  .ret)
  .skip))
  (sQ (rH 0 34 [t 12 3,c 12 [34],c 11 [35],q 33 36,e 33 0,e 33 1,q 7 37,q 8 38] [3,8,2,7,1])
  (sQ (rH 0 40 [t 12 3,c 12 [40],c 11 [41],q 39 42,e 39 0,e 39 1,q 9 43,q 10 44] [8,10,2,7,9,1])
  (sQ (sQ (rH 0 45 [ii .neq 8 0,m 46,g 47 false,ii .neq 10 0,h,r 47 49,m 50,g 51 false,m 7,o (.AA false (.s 52)),h,r 51 53,m 54,g 55 false,m 9,o (.AA false (.s 56)),h,r 55 57] [58,2,7,9,1])
  (cD 58 (sQ (rH 0 6 [o (.mv (kB false))] [6])
  .ret)
  .skip))
  (sQ (rH 1 11 [o (.kx 0 4)] [11,1,9,7,2])
  (sQ (sQ (rH 0 12 [v 0] [11,1,9,7,2,12])
  (.block 0 (.loop (some [11,1,9,7,2,12]) ZsZ)))
  (sQ (rH 0 213 [m 7,c 20 [213],m 9,c 20 [215],c 22 [214,216],m 217,g 218 true,m 9,c 18 [219],i .eql 220 1,h,y 218 221,m 222,g 223 true,c 10 [],h,y 223 224,q 6 225] [6])
  .ret))))))))
def ZoD:CC:=(K1 9 0) .skip
def ZoC:CC:=(K1 9 1) ZoD
abbrev ZoI:Nat:=9
def ZoB:CFn:=(H2 9) ZoD ZoC
abbrev ZlH:Nat:=10
def Zin:CFn:=(H1 10) .skip
abbrev ZlW:Nat:=11
def Zjz:CFn:=(H1 11) .skip
abbrev Zrn:Nat:=12
def Zrm:CFn:=(H1 12) .skip
def Zoy:CC:=(K1 13 0) .skip
def Zox:CC:=(K1 13 1) Zoy
def Zow:CC:=(K2 13 2) Zoy Zox
abbrev ZoG:Nat:=13
def ZoF:CFn:=(H3 13) Zoy Zox Zow
abbrev Zmw:Nat:=14
def Zjn:CFn:=(H1 14) .skip
abbrev zny:Nat:=16
def zeK:CFn:=(H1 16) .skip
def zj:CC:=(K1 17 0) .skip
abbrev Zh5:Nat:=17
def ZhG:CFn:=(H1 17) zj
abbrev ZlS:Nat:=18
def Zjb:CFn:=(H1 18) .skip
abbrev Zml:Nat:=20
def Zjc:CFn:=(H1 20) .skip
def Zs6:CC:=(sQ (sQ (rH 0 21 [m 6,fl 1 5,n 23,b .lss 21 24] [25,6,4,5,1])
 (cD 25 .skip
 (.exit 0)))
 (sQ (.block 1 (rH 0 28 [fl 1 5,m 6,m 1,a 3 29 30,f 0 32,w 1 33 31] [6,4,5,1]))
 (rH 0 26 [inc 6] [6,4,5,1])))
def Zs5:CC:=(sQ (sQ (rH 0 34 [m 7,fl 2 5,n 36,b .lss 34 37] [38,7,4,5,1])
 (cD 38 .skip
 (.exit 2)))
 (sQ (.block 3 (rH 0 41 [fl 2 5,m 7,m 1,a 3 42 43,f 0 45,w 1 46 44] [7,4,5,1]))
 (rH 0 39 [inc 7] [7,4,5,1])))
def Zs4:CC:=(sQ (sQ (rH 0 47 [m 8,fl 3 5,n 49,b .lss 47 50] [51,8,4,5,1])
 (cD 51 .skip
 (.exit 4)))
 (sQ (.block 5 (rH 0 54 [fl 3 5,m 8,m 1,a 3 55 56,f 0 58,w 1 59 57] [8,4,5,1]))
 (rH 0 52 [inc 8] [8,4,5,1])))
abbrev Zs8:Nat:=21
def Zs7:CFn:=fN 2 61 [(.cell 4 true 4)]
 (sQ (rH 2 4 [x 2 0 4 0,o (.box 1 4 zS8)] [2,4,1])
  (sQ (rH 1 9 [t 4 2,d 13 [(.s 9),(kI 0)],od 5 (.box 0 4 zS8),w 4 5 10] [4,5,1])
  (sQ (rH 0 11 [m 1,f 0 5,w 1 12 11] [4,5,1])
  (sQ (sQ (rH 0 13 [fl 1 5,n 14,i .gtr 15 1] [16,4,5,1])
  (cD 16 (rH 0 17 [fl 1 5,o (.slice 3 (.s 18) none (some (kI 1)) none),f 1 5,w 1 20 19] [4,5,1])
  .skip))
  (sQ (sQ (rH 0 6 [v 0] [6,4,5,1])
  (.block 0 (.loop (some [6,4,5,1]) Zs6)))
  (sQ (sQ (rH 0 7 [v 0] [7,4,5,1])
  (.block 2 (.loop (some [7,4,5,1]) Zs5)))
  (sQ (sQ (rH 0 8 [v 0] [8,4,5,1])
  (.block 4 (.loop (some [8,4,5,1]) Zs4)))
  (sQ (rH 0 60 [t 4 5,w 4 4 60] [4])
  .ret))))))))
def zb8:CC:=(sQ (sQ (rH 0 27 [m 5,fl 1 2,n 29,b .lss 27 30] [31,3,2,5])
 (cD 31 .skip
 (.exit 0)))
 (sQ (.block 1 (sQ (rH 0 34 [f 1 2,j 2 36,m 5,j 5 39,f 1 3,j 7 41,m 5,j 1 35,l 34,j 3 37,a 6 35 36,t 6 37,j 6 40,l 39,j 8 42,a 6 40 41,t 6 42,o (.eqa true [false,false,false,false,false,false] (.s 38) (.s 43))] [44,3,2,5])
 (cD 44 (sQ (rH 0 4 [o (.mv (kB false))] [4])
 .ret)
 .skip)))
 (rH 0 32 [inc 5] [2,3,5])))
abbrev zll:Nat:=22
def zaE:CFn:=fN 2 45 [(.slot 4)]
 (sQ (rH 2 4 [x 2 0 6 0,x 3 1 6 1,o (.mv (kB false))] [3,2])
  (sQ (sQ (rH 0 6 [fl 0 2,fl 0 3,b .neq 7 9,m 10,g 11 false,f 2 2,t 4 12,f 2 3,t 4 14,o (.eqa true [false,false,false,false] (.s 13) (.s 15)),h,r 11 16,m 17,g 18 false,fl 1 2,n 20,fl 1 3,n 23,b .neq 21 24,h,r 18 25] [26,3,2])
  (cD 26 (sQ (rH 0 4 [o (.mv (kB false))] [4])
  .ret)
  .skip))
  (sQ (sQ (rH 0 5 [v 0] [2,3,5])
  (.block 0 (.loop (some [2,3,5]) zb8)))
  (sQ (rH 0 4 [o (.mv (kB true))] [4])
  .ret))))
abbrev ZlI:Nat:=23
def Zil:CFn:=(H1 23) .skip
abbrev zEd:Nat:=27
def zDP:CFn:=(H1 27) .skip
def zDR:CFn:=(H1 30) .skip
abbrev Zn7:Nat:=34
def Zim:CFn:=(H1 34) .skip
abbrev Zoa:Nat:=35
def ZiM:CFn:=(H1 35) .skip
abbrev Zmd:Nat:=36
def ZiX:CFn:=(H1 36) .skip
abbrev Zmv:Nat:=37
def Zjm:CFn:=(H1 37) .skip
def zc6:CC:=(K1 38 0) .skip
def ze5:CC:=(K1 38 1) zc6
abbrev zrj:Nat:=38
def ziv:CFn:=(H2 38) zc6 ze5
abbrev Zjk:Nat:=39
def ZhN:CFn:=(H1 39) .skip
def zrB:CC:=(K1 40 0) .skip
abbrev Zm1:Nat:=40
def zvB:CFn:=(H1 40) zrB
abbrev Zh3:Nat:=41
def ZhE:CFn:=(H1 41) .skip
def ZlA:CC:=(K1 42 0) .skip
def Zlz:CC:=(K1 42 1) ZlA
abbrev Zhz:Nat:=42
def Zhs:CFn:=(H2 42) ZlA Zlz
def zn2:CC:=(K1 43 0) .skip
def znM:CC:=(K1 43 1) zn2
def znK:CC:=(K2 43 2) zn2 znM
abbrev Zh4:Nat:=43
def ZhF:CFn:=(H3 43) zn2 znM znK
def Zhc:CC:=(K1 44 0) .skip
abbrev ZhW:Nat:=44
def Zhr:CFn:=(H1 44) Zhc
abbrev zGR:Nat:=45
def zGa:CFn:=(H1 45) .skip
abbrev zZq:Nat:=46
def zul:CFn:=(H1 46) .skip
abbrev zY:Nat:=47
def zZ:CFn:=(H1 47) .skip
def zDD:CC:=(K1 48 0) .skip
abbrev zD3:Nat:=48
def zDK:CFn:=(H1 48) zDD
abbrev zGe:Nat:=50
def zFN:CFn:=(H1 50) .skip
abbrev zUj:Nat:=51
def zDW:CFn:=(H1 53) .skip
def zen:CFn:=(H1 54) .skip
def zmh:CFn:=(H1 57) .skip
def zbP:CC:=(K1 58 0) .skip
abbrev zjl:Nat:=58
def zjp:CFn:=(H1 58) zbP
end
end Go.TrRun
